/- The reference's sort, walked. -/
import Derived.Test.YtldkjjnjdjfipaaWHlp
namespace Go.Proofs.Ytldkjjnjdjfipaa
open Go Go.RowKit
set_option linter.unusedVariables false
set_option linter.unusedSimpArgs false
set_option maxRecDepth 10000

/-- where the reference puts one in, from place k down -/
def insPos (sq : Bool) (r : Rec) (out : List Rec) : Nat → Nat
  | 0 => 0
  | k + 1 => if ahd sq r (out.getD k default) then insPos sq r out k else k + 1
def insR (sq : Bool) (r : Rec) (out : List Rec) : List Rec := out.take (insPos sq r out out.length) ++ [r] ++ out.drop (insPos sq r out out.length)
def isortTo (sq : Bool) (l : List Rec) : Nat → List Rec
  | 0 => []
  | i + 1 => insR sq (l.getD i default) (isortTo sq l i)
/-- the reference's sort -/
def isort (sq : Bool) (l : List Rec) : List Rec := isortTo sq l l.length
theorem insPos_le (sq : Bool) (r : Rec) (out : List Rec) : ∀ k, insPos sq r out k ≤ k
  | 0 => Nat.le_refl _
  | k + 1 => by unfold insPos; split; exact Nat.le_succ_of_le (insPos_le sq r out k); exact Nat.le_refl _
theorem insPos_down {sq : Bool} {r : Rec} {out : List Rec} {k : Nat} (h : 0 < k) (ha : ahd sq r (out.getD (k - 1) default) = true) : insPos sq r out k = insPos sq r out (k - 1) := by
  obtain ⟨j, rfl⟩ : ∃ j, k = j + 1 := ⟨k - 1, by omega⟩
  rw [Nat.add_sub_cancel] at ha ⊢
  rw [insPos, if_pos ha]
theorem insPos_stop {sq : Bool} {r : Rec} {out : List Rec} {k : Nat} (h : k = 0 ∨ ahd sq r (out.getD (k - 1) default) = false) : insPos sq r out k = k := by
  cases k with
  | zero => rfl
  | succ k =>
    rcases h with h | h
    · cases h
    · rw [Nat.add_sub_cancel] at h
      rw [insPos, if_neg (by rw [h]; decide)]
theorem isortTo_next {sq : Bool} {l : List Rec} {i k : Nat} (h : insPos sq (l.getD i default) (isortTo sq l i) k = insPos sq (l.getD i default) (isortTo sq l i) (isortTo sq l i).length) (h2 : k = 0 ∨ ahd sq (l.getD i default) ((isortTo sq l i).getD (k - 1) default) = false) :
    (isortTo sq l i).take k ++ [l.getD i default] ++ (isortTo sq l i).drop k = isortTo sq l (i + 1) := by
  rw [insPos_stop h2] at h
  show _ = insR sq (l.getD i default) (isortTo sq l i)
  unfold insR
  rw [← h]
theorem isortTo_len (sq : Bool) (l : List Rec) : ∀ i, (isortTo sq l i).length = i
  | 0 => rfl
  | i + 1 => by
    have h := isortTo_len sq l i
    have h2 := insPos_le sq (l.getD i default) (isortTo sq l i) (isortTo sq l i).length
    show (insR sq (l.getD i default) (isortTo sq l i)).length = i + 1
    unfold insR
    simp only [List.length_append, List.length_take, List.length_drop, List.length_cons, List.length_nil]
    omega

theorem refsort_c (a : Option Addr) (n c : Nat) (l : List Rec) (sq : Bool) (w : World) (hn : l.length = n) (hr : Rds w a (l.flatMap recV)) (hb : n ≤ 1000000) : MakesS Try.prog 78 #[.slice a n c, .bool sq] w [] recV 4 23 (isort sq l) := by
  refine calls_S (n := 48) (σ0 := (upd (upd fr0 0 (.slice a n c)) 1 (.bool sq))) (D := []) (A := []) Try.func78 rfl Try.ntmps78 rfl (a2_fr _ _) (SH.start w) ?_
  refine wpS_seq ?_
  refine wpS_region ?_
  refine s_y (v := .slice none 0 0) (y_assign rfl) rfl ?_
  refine wpL_nil ?_
  refine thenS_n ?_
  refine wpS_seq ?_
  refine wpS_region ?_
  refine s_y (v := .slice none 0 0) (y_assign rfl) rfl ?_
  refine wpL_nil ?_
  refine thenS_n ?_
  refine wpS_seq ?_
  refine wpS_seq ?_
  refine wpS_region ?_
  refine s_y (v := .int .i64 0) (y_assign rfl) rfl ?_
  refine wpL_nil ?_
  refine thenS_n ?_
  refine wpS_block ?_
  refine wpS_nil0 4 23 ?_
  refine wpS_loop (fun m ds σ L => ∃ i : Nat, ∃ a1 : Option Addr, ∃ c1 : Nat, m = n - i ∧ (i ≤ n) ∧ ds = [] ∧ σ 0 = .slice a n c ∧ σ 1 = .bool sq ∧ σ 5 = .slice a1 ((isortTo sq l i).length) c1 ∧ σ 6 = .int .i64 (((i : Nat) : Int)) ∧ Ent L [osl a1 c1 ((isortTo sq l i).length) 4 23 ((isortTo sq l i).flatMap recV)]) (m0 := n - 0) ⟨0, none, 0, rfl, by omega, rfl, rfl, rfl, rfl, rfl, .p .h .nil⟩ ?_
  rintro m ds σ L ⟨i, a1, c1, hm_1, hf0_1, rfl, h0_1, h1_1, h5_1, h6_1, hE_1⟩
  refine wpS_ent hE_1 ?_; clear hE_1
  have hil := isortTo_len sq l i
  refine wpS_cap .h (fun hcap => ?_)
  refine wpS_seq ?_
  refine wpS_seq ?_
  refine wpS_region ?_
  refine s_y (v := .int .i64 (((i : Nat) : Int))) (y_move h6_1) rfl ?_
  refine s_y (v := .slice a n c) (y_move h0_1) rfl ?_
  refine s_y (v := .int .i64 (((n : Nat) : Int))) (y_len (ty' := 0) (at_ := #[]) rfl Try.underlying69) rfl ?_
  refine s_y (v := .bool (decide (i < n))) (y_lss (a := ((i : Nat) : Int)) (b := ((n : Nat) : Int)) (c := decide (i < n)) rfl rfl (decide_eq_decide.2 (by omega))) rfl ?_
  refine wpL_nil ?_
  refine thenS_n ?_
  refine wpS_cond (t := decide (i < n)) rfl (fun b2 => ?_) (fun b2 => ?_)
  · -- decide (i < n) true
    have p2 := of_decide_eq_true b2
    refine wpS_skip ?_
    refine thenS_n ?_
    refine wpS_seq ?_
    refine wpS_block ?_
    refine wpS_seq ?_
    refine wpS_region ?_
    refine s_y (v := .slice a1 ((isortTo sq l i).length) c1) (y_move h5_1) rfl ?_
    refine s_y (v := .int .i64 ((((isortTo sq l i).length : Nat) : Int))) (y_len (ty' := 0) (at_ := #[]) rfl Try.underlying69) rfl ?_
    refine s_y (v := .int .i64 ((((isortTo sq l i).length : Nat) : Int))) (y_assign rfl) rfl ?_
    refine wpL_nil ?_
    refine thenS_n ?_
    refine wpS_seq ?_
    refine wpS_block ?_
    refine wpS_loop (fun m ds σ L => ∃ k : Nat, m = k ∧ (k ≤ (isortTo sq l i).length) ∧ (insPos sq (l.getD i default) (isortTo sq l i) k = insPos sq (l.getD i default) (isortTo sq l i) (isortTo sq l i).length) ∧ ds = [] ∧ σ 0 = .slice a n c ∧ σ 1 = .bool sq ∧ σ 5 = .slice a1 ((isortTo sq l i).length) c1 ∧ σ 6 = .int .i64 (((i : Nat) : Int)) ∧ σ 7 = .int .i64 (((k : Nat) : Int)) ∧ Ent L [osl a1 c1 ((isortTo sq l i).length) 4 23 ((isortTo sq l i).flatMap recV)]) (m0 := (isortTo sq l i).length) ⟨(isortTo sq l i).length, rfl, by omega, rfl, rfl, h0_1, h1_1, h5_1, h6_1, rfl, .p .h .nil⟩ ?_
    rintro m ds σ L ⟨k, hm_3, hf0_3, hf1_3, rfl, h0_3, h1_3, h5_3, h6_3, h7_3, hE_3⟩
    refine wpS_ent hE_3 ?_; clear hE_3
    refine wpS_seq ?_
    refine wpS_seq ?_
    refine wpS_lex (by kernel_rfl) (by kernel_rfl) ?_
    refine x_y (v := .int .i64 (((k : Nat) : Int))) (y_move h7_3) rfl ?_
    refine x_y (v := .bool (decide ((0 : Nat) < k))) (y_gtr (a := ((k : Nat) : Int)) (b := 0) (c := decide ((0 : Nat) < k)) rfl rfl (decide_eq_decide.2 (by omega))) rfl ?_
    refine x_y (v := .bool (decide ((0 : Nat) < k))) (y_move rfl) rfl ?_
    rcases Bool.eq_false_or_eq_true (decide ((0 : Nat) < k)) with b4 | b4
    · -- decide ((0 : Nat) < k) True
      have p4 := of_decide_eq_true b4
      refine x_gy (y_move h0_3) rfl rfl rfl rfl (b' := decide ((0 : Nat) < k)) rfl b4 ?_
      refine x_gy (y_move h6_3) rfl rfl rfl rfl (b' := decide ((0 : Nat) < k)) rfl b4 ?_
      refine x_gy (y_idx (o := i * 4) rfl rfl Try.underlying69 Try.sizeOf23 (oldR hr) ((fl_len recV_len _).trans (by first | omega | (simp only [List.length_set, List.length_take, List.length_drop]; done) | (simp only [List.length_set, List.length_take, List.length_drop]; omega))) (by decide) (by omega) (by omega) (by omega)) rfl rfl rfl rfl (b' := decide ((0 : Nat) < k)) rfl b4 ?_
      refine x_gy (y_loadN (vs := recV (l.getD i default)) rfl Try.isAgg23 Try.sizeOf23 (rdN (oldR hr) (fl_getN recV_len l i (by first | omega | (simp only [List.length_set, List.length_take, List.length_drop]; done) | (simp only [List.length_set, List.length_take, List.length_drop]; omega))))) rfl rfl rfl rfl (b' := decide ((0 : Nat) < k)) rfl b4 ?_
      refine x_gy (y_move h5_3) rfl rfl rfl rfl (b' := decide ((0 : Nat) < k)) rfl b4 ?_
      refine x_gy (y_move h7_3) rfl rfl rfl rfl (b' := decide ((0 : Nat) < k)) rfl b4 ?_
      refine x_gy (y_sub (a := ((k : Nat) : Int)) (b := 1) (c := (((k - 1) : Nat) : Int)) rfl rfl (wI (by omega) (by omega) (by omega))) rfl rfl rfl rfl (b' := decide ((0 : Nat) < k)) rfl b4 ?_
      refine x_gy (y_idx (o := (k - 1) * 4) rfl rfl Try.underlying69 Try.sizeOf23 (oslR .h) (fl_len recV_len _) (by decide) (by omega) (by omega) (by omega)) rfl rfl rfl rfl (b' := decide ((0 : Nat) < k)) rfl b4 ?_
      refine x_gy (y_loadN (vs := recV ((isortTo sq l i).getD (k - 1) default)) rfl Try.isAgg23 Try.sizeOf23 (rdN (oslR .h) (fl_getN recV_len (isortTo sq l i) (k - 1) (by first | omega | (simp only [List.length_set, List.length_take, List.length_drop]; done) | (simp only [List.length_set, List.length_take, List.length_drop]; omega))))) rfl rfl rfl rfl (b' := decide ((0 : Nat) < k)) rfl b4 ?_
      refine x_gy (y_move h1_3) rfl rfl rfl rfl (b' := decide ((0 : Nat) < k)) rfl b4 ?_
      refine x_gy (y_call (args := #[.agg #[.bool ((l.getD i default).dead), .int .i64 (((l.getD i default).key).toInt), .int .i64 (((l.getD i default).value).toInt), .int .i64 (((l.getD i default).seq).toInt)], .agg #[.bool (((isortTo sq l i).getD (k - 1) default).dead), .int .i64 ((((isortTo sq l i).getD (k - 1) default).key).toInt), .int .i64 ((((isortTo sq l i).getD (k - 1) default).value).toInt), .int .i64 ((((isortTo sq l i).getD (k - 1) default).seq).toInt)], .bool sq]) (v := .bool ((ahd sq (l.getD i default) ((isortTo sq l i).getD (k - 1) default)))) Try.call172 (ev3 rfl rfl rfl) (fun w hs => refahd_c (l.getD i default) ((isortTo sq l i).getD (k - 1) default) sq w)) rfl rfl rfl rfl (b' := decide ((0 : Nat) < k)) rfl b4 ?_
      refine x_y (v := .bool ((ahd sq (l.getD i default) ((isortTo sq l i).getD (k - 1) default)))) (y_pickT (b := decide ((0 : Nat) < k)) (v := .bool ((ahd sq (l.getD i default) ((isortTo sq l i).getD (k - 1) default)))) rfl b4 rfl) rfl ?_
      refine x_nil ?_
      refine thenS_n ?_
      refine wpS_cond (t := (ahd sq (l.getD i default) ((isortTo sq l i).getD (k - 1) default))) rfl (fun b5 => ?_) (fun b5 => ?_)
      · -- (ahd sq (l.getD i default) ((isortTo sq l i).getD (k - 1) default)) true
        refine wpS_skip ?_
        refine thenS_n ?_
        refine wpS_block ?_
        refine wpS_region ?_
        refine s_y (v := .int .i64 (((k : Nat) : Int))) (y_move h7_3) rfl ?_
        refine s_y (v := .int .i64 ((((k - 1) : Nat) : Int))) (y_sub (a := ((k : Nat) : Int)) (b := 1) (c := (((k - 1) : Nat) : Int)) rfl rfl (wI (by omega) (by omega) (by omega))) rfl ?_
        refine s_y (v := .int .i64 ((((k - 1) : Nat) : Int))) (y_assign rfl) rfl ?_
        refine wpL_nil ?_
        refine blockS_n ?_
        refine thenS_n ?_
        exact ⟨_, by omega, ⟨(k - 1), rfl, by omega, (by rw [← insPos_down (by omega) (by assumption)]; assumption), rfl, h0_3, h1_3, h5_3, h6_3, rfl, .p .h .nil⟩⟩
      · -- (ahd sq (l.getD i default) ((isortTo sq l i).getD (k - 1) default)) false
        refine wpS_exit ?_
        refine thenS_x ?_
        refine thenS_x ?_
        refine blockS_h ?_
        refine thenS_n ?_
        refine wpS_any [3, 4, 5, 6, 7, 9, 10, 11, 12, 13, 14] (by kernel_rfl) ?_
        refine anyS_takeF (i := 4) rfl (by kernel_rfl) (by kernel_rfl) (by kernel_rfl) (by kernel_rfl) (Yq.of (v := .slice a n c) (y_move h0_3) rfl) ?_
        refine anyS_takeF (i := 5) rfl (by kernel_rfl) (by kernel_rfl) (by kernel_rfl) (by kernel_rfl) (Yq.of (v := .int .i64 (((i : Nat) : Int))) (y_move h6_3) rfl) ?_
        refine anyS_takeF (i := 6) rfl (by kernel_rfl) (by kernel_rfl) (by kernel_rfl) (by kernel_rfl) (Yq.of (v := .pointer (some ⟨aB a, aO a + i * 4, none⟩)) (y_idx (o := i * 4) rfl rfl Try.underlying69 Try.sizeOf23 (oldR hr) ((fl_len recV_len _).trans (by first | omega | (simp only [List.length_set, List.length_take, List.length_drop]; done) | (simp only [List.length_set, List.length_take, List.length_drop]; omega))) (by decide) (by omega) (by omega) (by omega)) rfl) ?_
        refine anyS_takeF (i := 7) rfl (by kernel_rfl) (by kernel_rfl) (by kernel_rfl) (by kernel_rfl) (Yq.of (v := .agg #[.bool ((l.getD i default).dead), .int .i64 (((l.getD i default).key).toInt), .int .i64 (((l.getD i default).value).toInt), .int .i64 (((l.getD i default).seq).toInt)]) (y_loadN (vs := recV (l.getD i default)) rfl Try.isAgg23 Try.sizeOf23 (rdN (oldR hr) (fl_getN recV_len l i (by first | omega | (simp only [List.length_set, List.length_take, List.length_drop]; done) | (simp only [List.length_set, List.length_take, List.length_drop]; omega))))) rfl) ?_
        refine anyS_takeF (i := 10) rfl (by kernel_rfl) (by kernel_rfl) (by kernel_rfl) (by kernel_rfl) (Yq.of (v := .slice a1 ((isortTo sq l i).length) c1) (y_move h5_3) rfl) ?_
        refine anyS_takeF (i := 11) rfl (by kernel_rfl) (by kernel_rfl) (by kernel_rfl) (by kernel_rfl) (Yq.of (v := .int .i64 (((k : Nat) : Int))) (y_move h7_3) rfl) ?_
        refine anyS_takeF (i := 12) rfl (by kernel_rfl) (by kernel_rfl) (by kernel_rfl) (by kernel_rfl) (Yq.of (v := .slice (subA a1 c1 k 4) ((isortTo sq l i).length - k) (c1 - k)) (y_sliceL (l' := k) rfl rfl Try.underlying69 Try.sizeOf23 (by omega) (by omega) (by omega)) rfl) ?_
        refine anyS_all (rs := [0, 1, 8]) (by kernel_rfl) (by simp) ?_
        intro i hi6; simp only [List.mem_cons, List.not_mem_nil, or_false] at hi6; rcases hi6 with rfl | rfl | rfl
        · -- number 0 first
          refine opS_0 rfl rfl ?_
          refine OpE.y (v := .slice a1 ((isortTo sq l i).length) c1) (y_move h5_3) ?_
          refine ⟨.inr (.p .h .nil), ?_⟩
          refine anyS_all (rs := [1, 8]) (by kernel_rfl) (by simp) ?_
          intro i hi7; simp only [List.mem_cons, List.not_mem_nil, or_false] at hi7; rcases hi7 with rfl | rfl
          · -- number 1 first
            refine opS_0 rfl rfl ?_
            refine OpE.y (v := .int .i64 (((k : Nat) : Int))) (y_move h7_3) ?_
            refine ⟨.inr (.p .h .nil), ?_⟩
            refine anyS_take (i := 2) rfl (by kernel_rfl) (by kernel_rfl) (by kernel_rfl) (by kernel_rfl) (Yq.of (v := .slice a1 k c1) (y_sliceH (h' := k) rfl rfl Try.underlying69 Try.sizeOf23 (by omega) (by omega) (by omega)) rfl) (.p .h .nil) ?_
            refine anyS_all (rs := [3, 8]) (by kernel_rfl) (by simp) ?_
            intro i hi8; simp only [List.mem_cons, List.not_mem_nil, or_false] at hi8; rcases hi8 with rfl | rfl
            · -- number 3 first
              refine opS_0 rfl rfl ?_
              refine OpE.ent (fun w hs => SH.nil0 (sz := 4) (t := 23) w hs) ?_
              refine e_appendL (enc := recV) (xs := ([] : List Rec)) (ns := ((isortTo sq l i).take k : List Rec)) (zs := ((isortTo sq l i).take k)) (bytes := 32) recV_len recV_one Try.underlying69 (i := Try.t23) rfl rfl rfl rfl rfl (by decide) rfl rfl (by first | rfl | omega) (by rw [List.length_take]; omega) .h (rdsT recV_len k (oslR (.t .h))) (List.nil_append _) (by rw [List.length_take]; omega) (by rw [List.length_take]; omega) ?_
              intro a_9 c_10
              refine ⟨.inl (by simp), ?_⟩
              refine anyS_all (rs := [8]) (by kernel_rfl) (by simp) ?_
              intro i hi; obtain rfl := List.mem_singleton.1 hi; clear hi
              refine opS_0 rfl rfl ?_
              refine e_bsliceL (e := 23) (m := [(0, .agg #[.bool ((l.getD i default).dead), .int .i64 (((l.getD i default).key).toInt), .int .i64 (((l.getD i default).value).toInt), .int .i64 (((l.getD i default).seq).toInt)])]) (l := [.bool ((l.getD i default).dead), .int .i64 (((l.getD i default).key).toInt), .int .i64 (((l.getD i default).value).toInt), .int .i64 (((l.getD i default).seq).toInt)]) (evc rfl evn) (fun w => by kernel_rfl) ?_
              intro b_11
              refine ⟨.inr (.p (.t (.t .h)) .nil), ?_⟩
              refine anyS_all (rs := [9]) (by kernel_rfl) (by simp) ?_
              intro i hi; obtain rfl := List.mem_singleton.1 hi; clear hi
              refine opS_0 rfl rfl ?_
              refine e_appendL (enc := recV) (xs := (((isortTo sq l i).take k) : List Rec)) (ns := ([(l.getD i default)] : List Rec)) (zs := ((isortTo sq l i).take k ++ [(l.getD i default)])) (bytes := 32) recV_len recV_one Try.underlying69 (i := Try.t23) rfl rfl rfl rfl rfl (by decide) rfl rfl (by first | rfl | omega) (by first | rfl | omega) (.t .h) (fun w hs => celR .h w hs) rfl (by rw [List.length_append, List.length_take]; simp only [List.length_cons, List.length_nil]; omega) (by rw [List.length_append, List.length_take]; simp only [List.length_cons, List.length_nil]; omega) ?_
              intro a_12 c_13
              refine ⟨.inl (by simp), ?_⟩
              refine anyS_all (rs := [13]) (by kernel_rfl) (by simp) ?_
              intro i hi; obtain rfl := List.mem_singleton.1 hi; clear hi
              refine opS_0 rfl rfl ?_
              refine e_appendL (enc := recV) (xs := (((isortTo sq l i).take k ++ [(l.getD i default)]) : List Rec)) (ns := ((isortTo sq l i).drop k : List Rec)) (zs := (isortTo sq l (i + 1))) (bytes := 32) recV_len recV_one Try.underlying69 (i := Try.t23) rfl rfl rfl rfl rfl (by decide) rfl rfl (by first | rfl | omega) (by rw [List.length_drop]) .h (rdsD recV_len k (by omega) (oslR (.t (.t .h)))) (isortTo_next (by assumption) (by first | exact .inl (by omega) | exact .inr (by assumption))) (by rw [isortTo_len]; omega) (by rw [isortTo_len]; omega) ?_
              intro a_14 c_15
              refine ⟨.inl (by simp), ?_⟩
              refine anyS_takeF (i := 14) rfl (by kernel_rfl) (by kernel_rfl) (by kernel_rfl) (by kernel_rfl) (Yq.of (v := .slice a_14 ((isortTo sq l (i + 1)).length) c_15) (y_assign rfl) rfl) ?_
              refine anyS_done (by kernel_rfl) ?_
              refine blockS_n ?_
              refine thenS_n ?_
              refine wpS_region ?_
              refine s_y (v := .int .i64 (((i : Nat) : Int))) (y_move h6_3) rfl ?_
              refine s_y (v := .int .i64 ((((i + 1) : Nat) : Int))) (y_add (a := ((i : Nat) : Int)) (b := 1) (c := (((i + 1) : Nat) : Int)) rfl rfl (wI (by omega) (by omega) (by omega))) rfl ?_
              refine s_y (v := .int .i64 ((((i + 1) : Nat) : Int))) (y_assign rfl) rfl ?_
              refine wpL_nil ?_
              refine thenS_n ?_
              exact ⟨_, by omega, ⟨(i + 1), a_14, c_15, rfl, by omega, rfl, h0_3, h1_3, rfl, rfl, .p .h .nil⟩⟩
            · -- number 8 first
              refine opS_0 rfl rfl ?_
              refine e_bsliceL (e := 23) (m := [(0, .agg #[.bool ((l.getD i default).dead), .int .i64 (((l.getD i default).key).toInt), .int .i64 (((l.getD i default).value).toInt), .int .i64 (((l.getD i default).seq).toInt)])]) (l := [.bool ((l.getD i default).dead), .int .i64 (((l.getD i default).key).toInt), .int .i64 (((l.getD i default).value).toInt), .int .i64 (((l.getD i default).seq).toInt)]) (evc rfl evn) (fun w => by kernel_rfl) ?_
              intro b_16
              refine ⟨.inr (.p (.t .h) .nil), ?_⟩
              refine anyS_all (rs := [3]) (by kernel_rfl) (by simp) ?_
              intro i hi; obtain rfl := List.mem_singleton.1 hi; clear hi
              refine opS_0 rfl rfl ?_
              refine OpE.ent (fun w hs => SH.nil0 (sz := 4) (t := 23) w hs) ?_
              refine e_appendL (enc := recV) (xs := ([] : List Rec)) (ns := ((isortTo sq l i).take k : List Rec)) (zs := ((isortTo sq l i).take k)) (bytes := 32) recV_len recV_one Try.underlying69 (i := Try.t23) rfl rfl rfl rfl rfl (by decide) rfl rfl (by first | rfl | omega) (by rw [List.length_take]; omega) .h (rdsT recV_len k (oslR (.t (.t .h)))) (List.nil_append _) (by rw [List.length_take]; omega) (by rw [List.length_take]; omega) ?_
              intro a_17 c_18
              refine ⟨.inl (by simp), ?_⟩
              refine anyS_all (rs := [9]) (by kernel_rfl) (by simp) ?_
              intro i hi; obtain rfl := List.mem_singleton.1 hi; clear hi
              refine opS_0 rfl rfl ?_
              refine e_appendL (enc := recV) (xs := (((isortTo sq l i).take k) : List Rec)) (ns := ([(l.getD i default)] : List Rec)) (zs := ((isortTo sq l i).take k ++ [(l.getD i default)])) (bytes := 32) recV_len recV_one Try.underlying69 (i := Try.t23) rfl rfl rfl rfl rfl (by decide) rfl rfl (by first | rfl | omega) (by first | rfl | omega) .h (fun w hs => celR (.t .h) w hs) rfl (by rw [List.length_append, List.length_take]; simp only [List.length_cons, List.length_nil]; omega) (by rw [List.length_append, List.length_take]; simp only [List.length_cons, List.length_nil]; omega) ?_
              intro a_19 c_20
              refine ⟨.inl (by simp), ?_⟩
              refine anyS_all (rs := [13]) (by kernel_rfl) (by simp) ?_
              intro i hi; obtain rfl := List.mem_singleton.1 hi; clear hi
              refine opS_0 rfl rfl ?_
              refine e_appendL (enc := recV) (xs := (((isortTo sq l i).take k ++ [(l.getD i default)]) : List Rec)) (ns := ((isortTo sq l i).drop k : List Rec)) (zs := (isortTo sq l (i + 1))) (bytes := 32) recV_len recV_one Try.underlying69 (i := Try.t23) rfl rfl rfl rfl rfl (by decide) rfl rfl (by first | rfl | omega) (by rw [List.length_drop]) .h (rdsD recV_len k (by omega) (oslR (.t (.t .h)))) (isortTo_next (by assumption) (by first | exact .inl (by omega) | exact .inr (by assumption))) (by rw [isortTo_len]; omega) (by rw [isortTo_len]; omega) ?_
              intro a_21 c_22
              refine ⟨.inl (by simp), ?_⟩
              refine anyS_takeF (i := 14) rfl (by kernel_rfl) (by kernel_rfl) (by kernel_rfl) (by kernel_rfl) (Yq.of (v := .slice a_21 ((isortTo sq l (i + 1)).length) c_22) (y_assign rfl) rfl) ?_
              refine anyS_done (by kernel_rfl) ?_
              refine blockS_n ?_
              refine thenS_n ?_
              refine wpS_region ?_
              refine s_y (v := .int .i64 (((i : Nat) : Int))) (y_move h6_3) rfl ?_
              refine s_y (v := .int .i64 ((((i + 1) : Nat) : Int))) (y_add (a := ((i : Nat) : Int)) (b := 1) (c := (((i + 1) : Nat) : Int)) rfl rfl (wI (by omega) (by omega) (by omega))) rfl ?_
              refine s_y (v := .int .i64 ((((i + 1) : Nat) : Int))) (y_assign rfl) rfl ?_
              refine wpL_nil ?_
              refine thenS_n ?_
              exact ⟨_, by omega, ⟨(i + 1), a_21, c_22, rfl, by omega, rfl, h0_3, h1_3, rfl, rfl, .p .h .nil⟩⟩
          · -- number 8 first
            refine opS_0 rfl rfl ?_
            refine e_bsliceL (e := 23) (m := [(0, .agg #[.bool ((l.getD i default).dead), .int .i64 (((l.getD i default).key).toInt), .int .i64 (((l.getD i default).value).toInt), .int .i64 (((l.getD i default).seq).toInt)])]) (l := [.bool ((l.getD i default).dead), .int .i64 (((l.getD i default).key).toInt), .int .i64 (((l.getD i default).value).toInt), .int .i64 (((l.getD i default).seq).toInt)]) (evc rfl evn) (fun w => by kernel_rfl) ?_
            intro b_23
            refine ⟨.inr (.p (.t .h) .nil), ?_⟩
            refine anyS_all (rs := [1]) (by kernel_rfl) (by simp) ?_
            intro i hi; obtain rfl := List.mem_singleton.1 hi; clear hi
            refine opS_0 rfl rfl ?_
            refine OpE.y (v := .int .i64 (((k : Nat) : Int))) (y_move h7_3) ?_
            refine ⟨.inr (.p (.t .h) .nil), ?_⟩
            refine anyS_take (i := 2) rfl (by kernel_rfl) (by kernel_rfl) (by kernel_rfl) (by kernel_rfl) (Yq.of (v := .slice a1 k c1) (y_sliceH (h' := k) rfl rfl Try.underlying69 Try.sizeOf23 (by omega) (by omega) (by omega)) rfl) (.p (.t .h) .nil) ?_
            refine anyS_all (rs := [3]) (by kernel_rfl) (by simp) ?_
            intro i hi; obtain rfl := List.mem_singleton.1 hi; clear hi
            refine opS_0 rfl rfl ?_
            refine OpE.ent (fun w hs => SH.nil0 (sz := 4) (t := 23) w hs) ?_
            refine e_appendL (enc := recV) (xs := ([] : List Rec)) (ns := ((isortTo sq l i).take k : List Rec)) (zs := ((isortTo sq l i).take k)) (bytes := 32) recV_len recV_one Try.underlying69 (i := Try.t23) rfl rfl rfl rfl rfl (by decide) rfl rfl (by first | rfl | omega) (by rw [List.length_take]; omega) .h (rdsT recV_len k (oslR (.t (.t .h)))) (List.nil_append _) (by rw [List.length_take]; omega) (by rw [List.length_take]; omega) ?_
            intro a_24 c_25
            refine ⟨.inl (by simp), ?_⟩
            refine anyS_all (rs := [9]) (by kernel_rfl) (by simp) ?_
            intro i hi; obtain rfl := List.mem_singleton.1 hi; clear hi
            refine opS_0 rfl rfl ?_
            refine e_appendL (enc := recV) (xs := (((isortTo sq l i).take k) : List Rec)) (ns := ([(l.getD i default)] : List Rec)) (zs := ((isortTo sq l i).take k ++ [(l.getD i default)])) (bytes := 32) recV_len recV_one Try.underlying69 (i := Try.t23) rfl rfl rfl rfl rfl (by decide) rfl rfl (by first | rfl | omega) (by first | rfl | omega) .h (fun w hs => celR (.t .h) w hs) rfl (by rw [List.length_append, List.length_take]; simp only [List.length_cons, List.length_nil]; omega) (by rw [List.length_append, List.length_take]; simp only [List.length_cons, List.length_nil]; omega) ?_
            intro a_26 c_27
            refine ⟨.inl (by simp), ?_⟩
            refine anyS_all (rs := [13]) (by kernel_rfl) (by simp) ?_
            intro i hi; obtain rfl := List.mem_singleton.1 hi; clear hi
            refine opS_0 rfl rfl ?_
            refine e_appendL (enc := recV) (xs := (((isortTo sq l i).take k ++ [(l.getD i default)]) : List Rec)) (ns := ((isortTo sq l i).drop k : List Rec)) (zs := (isortTo sq l (i + 1))) (bytes := 32) recV_len recV_one Try.underlying69 (i := Try.t23) rfl rfl rfl rfl rfl (by decide) rfl rfl (by first | rfl | omega) (by rw [List.length_drop]) .h (rdsD recV_len k (by omega) (oslR (.t (.t .h)))) (isortTo_next (by assumption) (by first | exact .inl (by omega) | exact .inr (by assumption))) (by rw [isortTo_len]; omega) (by rw [isortTo_len]; omega) ?_
            intro a_28 c_29
            refine ⟨.inl (by simp), ?_⟩
            refine anyS_takeF (i := 14) rfl (by kernel_rfl) (by kernel_rfl) (by kernel_rfl) (by kernel_rfl) (Yq.of (v := .slice a_28 ((isortTo sq l (i + 1)).length) c_29) (y_assign rfl) rfl) ?_
            refine anyS_done (by kernel_rfl) ?_
            refine blockS_n ?_
            refine thenS_n ?_
            refine wpS_region ?_
            refine s_y (v := .int .i64 (((i : Nat) : Int))) (y_move h6_3) rfl ?_
            refine s_y (v := .int .i64 ((((i + 1) : Nat) : Int))) (y_add (a := ((i : Nat) : Int)) (b := 1) (c := (((i + 1) : Nat) : Int)) rfl rfl (wI (by omega) (by omega) (by omega))) rfl ?_
            refine s_y (v := .int .i64 ((((i + 1) : Nat) : Int))) (y_assign rfl) rfl ?_
            refine wpL_nil ?_
            refine thenS_n ?_
            exact ⟨_, by omega, ⟨(i + 1), a_28, c_29, rfl, by omega, rfl, h0_3, h1_3, rfl, rfl, .p .h .nil⟩⟩
        · -- number 1 first
          refine opS_0 rfl rfl ?_
          refine OpE.y (v := .int .i64 (((k : Nat) : Int))) (y_move h7_3) ?_
          refine ⟨.inr (.p .h .nil), ?_⟩
          refine anyS_all (rs := [0, 8]) (by kernel_rfl) (by simp) ?_
          intro i hi30; simp only [List.mem_cons, List.not_mem_nil, or_false] at hi30; rcases hi30 with rfl | rfl
          · -- number 0 first
            refine opS_0 rfl rfl ?_
            refine OpE.y (v := .slice a1 ((isortTo sq l i).length) c1) (y_move h5_3) ?_
            refine ⟨.inr (.p .h .nil), ?_⟩
            refine anyS_take (i := 2) rfl (by kernel_rfl) (by kernel_rfl) (by kernel_rfl) (by kernel_rfl) (Yq.of (v := .slice a1 k c1) (y_sliceH (h' := k) rfl rfl Try.underlying69 Try.sizeOf23 (by omega) (by omega) (by omega)) rfl) (.p .h .nil) ?_
            refine anyS_all (rs := [3, 8]) (by kernel_rfl) (by simp) ?_
            intro i hi31; simp only [List.mem_cons, List.not_mem_nil, or_false] at hi31; rcases hi31 with rfl | rfl
            · -- number 3 first
              refine opS_0 rfl rfl ?_
              refine OpE.ent (fun w hs => SH.nil0 (sz := 4) (t := 23) w hs) ?_
              refine e_appendL (enc := recV) (xs := ([] : List Rec)) (ns := ((isortTo sq l i).take k : List Rec)) (zs := ((isortTo sq l i).take k)) (bytes := 32) recV_len recV_one Try.underlying69 (i := Try.t23) rfl rfl rfl rfl rfl (by decide) rfl rfl (by first | rfl | omega) (by rw [List.length_take]; omega) .h (rdsT recV_len k (oslR (.t .h))) (List.nil_append _) (by rw [List.length_take]; omega) (by rw [List.length_take]; omega) ?_
              intro a_32 c_33
              refine ⟨.inl (by simp), ?_⟩
              refine anyS_all (rs := [8]) (by kernel_rfl) (by simp) ?_
              intro i hi; obtain rfl := List.mem_singleton.1 hi; clear hi
              refine opS_0 rfl rfl ?_
              refine e_bsliceL (e := 23) (m := [(0, .agg #[.bool ((l.getD i default).dead), .int .i64 (((l.getD i default).key).toInt), .int .i64 (((l.getD i default).value).toInt), .int .i64 (((l.getD i default).seq).toInt)])]) (l := [.bool ((l.getD i default).dead), .int .i64 (((l.getD i default).key).toInt), .int .i64 (((l.getD i default).value).toInt), .int .i64 (((l.getD i default).seq).toInt)]) (evc rfl evn) (fun w => by kernel_rfl) ?_
              intro b_34
              refine ⟨.inr (.p (.t (.t .h)) .nil), ?_⟩
              refine anyS_all (rs := [9]) (by kernel_rfl) (by simp) ?_
              intro i hi; obtain rfl := List.mem_singleton.1 hi; clear hi
              refine opS_0 rfl rfl ?_
              refine e_appendL (enc := recV) (xs := (((isortTo sq l i).take k) : List Rec)) (ns := ([(l.getD i default)] : List Rec)) (zs := ((isortTo sq l i).take k ++ [(l.getD i default)])) (bytes := 32) recV_len recV_one Try.underlying69 (i := Try.t23) rfl rfl rfl rfl rfl (by decide) rfl rfl (by first | rfl | omega) (by first | rfl | omega) (.t .h) (fun w hs => celR .h w hs) rfl (by rw [List.length_append, List.length_take]; simp only [List.length_cons, List.length_nil]; omega) (by rw [List.length_append, List.length_take]; simp only [List.length_cons, List.length_nil]; omega) ?_
              intro a_35 c_36
              refine ⟨.inl (by simp), ?_⟩
              refine anyS_all (rs := [13]) (by kernel_rfl) (by simp) ?_
              intro i hi; obtain rfl := List.mem_singleton.1 hi; clear hi
              refine opS_0 rfl rfl ?_
              refine e_appendL (enc := recV) (xs := (((isortTo sq l i).take k ++ [(l.getD i default)]) : List Rec)) (ns := ((isortTo sq l i).drop k : List Rec)) (zs := (isortTo sq l (i + 1))) (bytes := 32) recV_len recV_one Try.underlying69 (i := Try.t23) rfl rfl rfl rfl rfl (by decide) rfl rfl (by first | rfl | omega) (by rw [List.length_drop]) .h (rdsD recV_len k (by omega) (oslR (.t (.t .h)))) (isortTo_next (by assumption) (by first | exact .inl (by omega) | exact .inr (by assumption))) (by rw [isortTo_len]; omega) (by rw [isortTo_len]; omega) ?_
              intro a_37 c_38
              refine ⟨.inl (by simp), ?_⟩
              refine anyS_takeF (i := 14) rfl (by kernel_rfl) (by kernel_rfl) (by kernel_rfl) (by kernel_rfl) (Yq.of (v := .slice a_37 ((isortTo sq l (i + 1)).length) c_38) (y_assign rfl) rfl) ?_
              refine anyS_done (by kernel_rfl) ?_
              refine blockS_n ?_
              refine thenS_n ?_
              refine wpS_region ?_
              refine s_y (v := .int .i64 (((i : Nat) : Int))) (y_move h6_3) rfl ?_
              refine s_y (v := .int .i64 ((((i + 1) : Nat) : Int))) (y_add (a := ((i : Nat) : Int)) (b := 1) (c := (((i + 1) : Nat) : Int)) rfl rfl (wI (by omega) (by omega) (by omega))) rfl ?_
              refine s_y (v := .int .i64 ((((i + 1) : Nat) : Int))) (y_assign rfl) rfl ?_
              refine wpL_nil ?_
              refine thenS_n ?_
              exact ⟨_, by omega, ⟨(i + 1), a_37, c_38, rfl, by omega, rfl, h0_3, h1_3, rfl, rfl, .p .h .nil⟩⟩
            · -- number 8 first
              refine opS_0 rfl rfl ?_
              refine e_bsliceL (e := 23) (m := [(0, .agg #[.bool ((l.getD i default).dead), .int .i64 (((l.getD i default).key).toInt), .int .i64 (((l.getD i default).value).toInt), .int .i64 (((l.getD i default).seq).toInt)])]) (l := [.bool ((l.getD i default).dead), .int .i64 (((l.getD i default).key).toInt), .int .i64 (((l.getD i default).value).toInt), .int .i64 (((l.getD i default).seq).toInt)]) (evc rfl evn) (fun w => by kernel_rfl) ?_
              intro b_39
              refine ⟨.inr (.p (.t .h) .nil), ?_⟩
              refine anyS_all (rs := [3]) (by kernel_rfl) (by simp) ?_
              intro i hi; obtain rfl := List.mem_singleton.1 hi; clear hi
              refine opS_0 rfl rfl ?_
              refine OpE.ent (fun w hs => SH.nil0 (sz := 4) (t := 23) w hs) ?_
              refine e_appendL (enc := recV) (xs := ([] : List Rec)) (ns := ((isortTo sq l i).take k : List Rec)) (zs := ((isortTo sq l i).take k)) (bytes := 32) recV_len recV_one Try.underlying69 (i := Try.t23) rfl rfl rfl rfl rfl (by decide) rfl rfl (by first | rfl | omega) (by rw [List.length_take]; omega) .h (rdsT recV_len k (oslR (.t (.t .h)))) (List.nil_append _) (by rw [List.length_take]; omega) (by rw [List.length_take]; omega) ?_
              intro a_40 c_41
              refine ⟨.inl (by simp), ?_⟩
              refine anyS_all (rs := [9]) (by kernel_rfl) (by simp) ?_
              intro i hi; obtain rfl := List.mem_singleton.1 hi; clear hi
              refine opS_0 rfl rfl ?_
              refine e_appendL (enc := recV) (xs := (((isortTo sq l i).take k) : List Rec)) (ns := ([(l.getD i default)] : List Rec)) (zs := ((isortTo sq l i).take k ++ [(l.getD i default)])) (bytes := 32) recV_len recV_one Try.underlying69 (i := Try.t23) rfl rfl rfl rfl rfl (by decide) rfl rfl (by first | rfl | omega) (by first | rfl | omega) .h (fun w hs => celR (.t .h) w hs) rfl (by rw [List.length_append, List.length_take]; simp only [List.length_cons, List.length_nil]; omega) (by rw [List.length_append, List.length_take]; simp only [List.length_cons, List.length_nil]; omega) ?_
              intro a_42 c_43
              refine ⟨.inl (by simp), ?_⟩
              refine anyS_all (rs := [13]) (by kernel_rfl) (by simp) ?_
              intro i hi; obtain rfl := List.mem_singleton.1 hi; clear hi
              refine opS_0 rfl rfl ?_
              refine e_appendL (enc := recV) (xs := (((isortTo sq l i).take k ++ [(l.getD i default)]) : List Rec)) (ns := ((isortTo sq l i).drop k : List Rec)) (zs := (isortTo sq l (i + 1))) (bytes := 32) recV_len recV_one Try.underlying69 (i := Try.t23) rfl rfl rfl rfl rfl (by decide) rfl rfl (by first | rfl | omega) (by rw [List.length_drop]) .h (rdsD recV_len k (by omega) (oslR (.t (.t .h)))) (isortTo_next (by assumption) (by first | exact .inl (by omega) | exact .inr (by assumption))) (by rw [isortTo_len]; omega) (by rw [isortTo_len]; omega) ?_
              intro a_44 c_45
              refine ⟨.inl (by simp), ?_⟩
              refine anyS_takeF (i := 14) rfl (by kernel_rfl) (by kernel_rfl) (by kernel_rfl) (by kernel_rfl) (Yq.of (v := .slice a_44 ((isortTo sq l (i + 1)).length) c_45) (y_assign rfl) rfl) ?_
              refine anyS_done (by kernel_rfl) ?_
              refine blockS_n ?_
              refine thenS_n ?_
              refine wpS_region ?_
              refine s_y (v := .int .i64 (((i : Nat) : Int))) (y_move h6_3) rfl ?_
              refine s_y (v := .int .i64 ((((i + 1) : Nat) : Int))) (y_add (a := ((i : Nat) : Int)) (b := 1) (c := (((i + 1) : Nat) : Int)) rfl rfl (wI (by omega) (by omega) (by omega))) rfl ?_
              refine s_y (v := .int .i64 ((((i + 1) : Nat) : Int))) (y_assign rfl) rfl ?_
              refine wpL_nil ?_
              refine thenS_n ?_
              exact ⟨_, by omega, ⟨(i + 1), a_44, c_45, rfl, by omega, rfl, h0_3, h1_3, rfl, rfl, .p .h .nil⟩⟩
          · -- number 8 first
            refine opS_0 rfl rfl ?_
            refine e_bsliceL (e := 23) (m := [(0, .agg #[.bool ((l.getD i default).dead), .int .i64 (((l.getD i default).key).toInt), .int .i64 (((l.getD i default).value).toInt), .int .i64 (((l.getD i default).seq).toInt)])]) (l := [.bool ((l.getD i default).dead), .int .i64 (((l.getD i default).key).toInt), .int .i64 (((l.getD i default).value).toInt), .int .i64 (((l.getD i default).seq).toInt)]) (evc rfl evn) (fun w => by kernel_rfl) ?_
            intro b_46
            refine ⟨.inr (.p (.t .h) .nil), ?_⟩
            refine anyS_all (rs := [0]) (by kernel_rfl) (by simp) ?_
            intro i hi; obtain rfl := List.mem_singleton.1 hi; clear hi
            refine opS_0 rfl rfl ?_
            refine OpE.y (v := .slice a1 ((isortTo sq l i).length) c1) (y_move h5_3) ?_
            refine ⟨.inr (.p (.t .h) .nil), ?_⟩
            refine anyS_take (i := 2) rfl (by kernel_rfl) (by kernel_rfl) (by kernel_rfl) (by kernel_rfl) (Yq.of (v := .slice a1 k c1) (y_sliceH (h' := k) rfl rfl Try.underlying69 Try.sizeOf23 (by omega) (by omega) (by omega)) rfl) (.p (.t .h) .nil) ?_
            refine anyS_all (rs := [3]) (by kernel_rfl) (by simp) ?_
            intro i hi; obtain rfl := List.mem_singleton.1 hi; clear hi
            refine opS_0 rfl rfl ?_
            refine OpE.ent (fun w hs => SH.nil0 (sz := 4) (t := 23) w hs) ?_
            refine e_appendL (enc := recV) (xs := ([] : List Rec)) (ns := ((isortTo sq l i).take k : List Rec)) (zs := ((isortTo sq l i).take k)) (bytes := 32) recV_len recV_one Try.underlying69 (i := Try.t23) rfl rfl rfl rfl rfl (by decide) rfl rfl (by first | rfl | omega) (by rw [List.length_take]; omega) .h (rdsT recV_len k (oslR (.t (.t .h)))) (List.nil_append _) (by rw [List.length_take]; omega) (by rw [List.length_take]; omega) ?_
            intro a_47 c_48
            refine ⟨.inl (by simp), ?_⟩
            refine anyS_all (rs := [9]) (by kernel_rfl) (by simp) ?_
            intro i hi; obtain rfl := List.mem_singleton.1 hi; clear hi
            refine opS_0 rfl rfl ?_
            refine e_appendL (enc := recV) (xs := (((isortTo sq l i).take k) : List Rec)) (ns := ([(l.getD i default)] : List Rec)) (zs := ((isortTo sq l i).take k ++ [(l.getD i default)])) (bytes := 32) recV_len recV_one Try.underlying69 (i := Try.t23) rfl rfl rfl rfl rfl (by decide) rfl rfl (by first | rfl | omega) (by first | rfl | omega) .h (fun w hs => celR (.t .h) w hs) rfl (by rw [List.length_append, List.length_take]; simp only [List.length_cons, List.length_nil]; omega) (by rw [List.length_append, List.length_take]; simp only [List.length_cons, List.length_nil]; omega) ?_
            intro a_49 c_50
            refine ⟨.inl (by simp), ?_⟩
            refine anyS_all (rs := [13]) (by kernel_rfl) (by simp) ?_
            intro i hi; obtain rfl := List.mem_singleton.1 hi; clear hi
            refine opS_0 rfl rfl ?_
            refine e_appendL (enc := recV) (xs := (((isortTo sq l i).take k ++ [(l.getD i default)]) : List Rec)) (ns := ((isortTo sq l i).drop k : List Rec)) (zs := (isortTo sq l (i + 1))) (bytes := 32) recV_len recV_one Try.underlying69 (i := Try.t23) rfl rfl rfl rfl rfl (by decide) rfl rfl (by first | rfl | omega) (by rw [List.length_drop]) .h (rdsD recV_len k (by omega) (oslR (.t (.t .h)))) (isortTo_next (by assumption) (by first | exact .inl (by omega) | exact .inr (by assumption))) (by rw [isortTo_len]; omega) (by rw [isortTo_len]; omega) ?_
            intro a_51 c_52
            refine ⟨.inl (by simp), ?_⟩
            refine anyS_takeF (i := 14) rfl (by kernel_rfl) (by kernel_rfl) (by kernel_rfl) (by kernel_rfl) (Yq.of (v := .slice a_51 ((isortTo sq l (i + 1)).length) c_52) (y_assign rfl) rfl) ?_
            refine anyS_done (by kernel_rfl) ?_
            refine blockS_n ?_
            refine thenS_n ?_
            refine wpS_region ?_
            refine s_y (v := .int .i64 (((i : Nat) : Int))) (y_move h6_3) rfl ?_
            refine s_y (v := .int .i64 ((((i + 1) : Nat) : Int))) (y_add (a := ((i : Nat) : Int)) (b := 1) (c := (((i + 1) : Nat) : Int)) rfl rfl (wI (by omega) (by omega) (by omega))) rfl ?_
            refine s_y (v := .int .i64 ((((i + 1) : Nat) : Int))) (y_assign rfl) rfl ?_
            refine wpL_nil ?_
            refine thenS_n ?_
            exact ⟨_, by omega, ⟨(i + 1), a_51, c_52, rfl, by omega, rfl, h0_3, h1_3, rfl, rfl, .p .h .nil⟩⟩
        · -- number 8 first
          refine opS_0 rfl rfl ?_
          refine e_bsliceL (e := 23) (m := [(0, .agg #[.bool ((l.getD i default).dead), .int .i64 (((l.getD i default).key).toInt), .int .i64 (((l.getD i default).value).toInt), .int .i64 (((l.getD i default).seq).toInt)])]) (l := [.bool ((l.getD i default).dead), .int .i64 (((l.getD i default).key).toInt), .int .i64 (((l.getD i default).value).toInt), .int .i64 (((l.getD i default).seq).toInt)]) (evc rfl evn) (fun w => by kernel_rfl) ?_
          intro b_53
          refine ⟨.inr (.p (.t .h) .nil), ?_⟩
          refine anyS_all (rs := [0, 1]) (by kernel_rfl) (by simp) ?_
          intro i hi54; simp only [List.mem_cons, List.not_mem_nil, or_false] at hi54; rcases hi54 with rfl | rfl
          · -- number 0 first
            refine opS_0 rfl rfl ?_
            refine OpE.y (v := .slice a1 ((isortTo sq l i).length) c1) (y_move h5_3) ?_
            refine ⟨.inr (.p (.t .h) .nil), ?_⟩
            refine anyS_all (rs := [1]) (by kernel_rfl) (by simp) ?_
            intro i hi; obtain rfl := List.mem_singleton.1 hi; clear hi
            refine opS_0 rfl rfl ?_
            refine OpE.y (v := .int .i64 (((k : Nat) : Int))) (y_move h7_3) ?_
            refine ⟨.inr (.p (.t .h) .nil), ?_⟩
            refine anyS_take (i := 2) rfl (by kernel_rfl) (by kernel_rfl) (by kernel_rfl) (by kernel_rfl) (Yq.of (v := .slice a1 k c1) (y_sliceH (h' := k) rfl rfl Try.underlying69 Try.sizeOf23 (by omega) (by omega) (by omega)) rfl) (.p (.t .h) .nil) ?_
            refine anyS_all (rs := [3]) (by kernel_rfl) (by simp) ?_
            intro i hi; obtain rfl := List.mem_singleton.1 hi; clear hi
            refine opS_0 rfl rfl ?_
            refine OpE.ent (fun w hs => SH.nil0 (sz := 4) (t := 23) w hs) ?_
            refine e_appendL (enc := recV) (xs := ([] : List Rec)) (ns := ((isortTo sq l i).take k : List Rec)) (zs := ((isortTo sq l i).take k)) (bytes := 32) recV_len recV_one Try.underlying69 (i := Try.t23) rfl rfl rfl rfl rfl (by decide) rfl rfl (by first | rfl | omega) (by rw [List.length_take]; omega) .h (rdsT recV_len k (oslR (.t (.t .h)))) (List.nil_append _) (by rw [List.length_take]; omega) (by rw [List.length_take]; omega) ?_
            intro a_55 c_56
            refine ⟨.inl (by simp), ?_⟩
            refine anyS_all (rs := [9]) (by kernel_rfl) (by simp) ?_
            intro i hi; obtain rfl := List.mem_singleton.1 hi; clear hi
            refine opS_0 rfl rfl ?_
            refine e_appendL (enc := recV) (xs := (((isortTo sq l i).take k) : List Rec)) (ns := ([(l.getD i default)] : List Rec)) (zs := ((isortTo sq l i).take k ++ [(l.getD i default)])) (bytes := 32) recV_len recV_one Try.underlying69 (i := Try.t23) rfl rfl rfl rfl rfl (by decide) rfl rfl (by first | rfl | omega) (by first | rfl | omega) .h (fun w hs => celR (.t .h) w hs) rfl (by rw [List.length_append, List.length_take]; simp only [List.length_cons, List.length_nil]; omega) (by rw [List.length_append, List.length_take]; simp only [List.length_cons, List.length_nil]; omega) ?_
            intro a_57 c_58
            refine ⟨.inl (by simp), ?_⟩
            refine anyS_all (rs := [13]) (by kernel_rfl) (by simp) ?_
            intro i hi; obtain rfl := List.mem_singleton.1 hi; clear hi
            refine opS_0 rfl rfl ?_
            refine e_appendL (enc := recV) (xs := (((isortTo sq l i).take k ++ [(l.getD i default)]) : List Rec)) (ns := ((isortTo sq l i).drop k : List Rec)) (zs := (isortTo sq l (i + 1))) (bytes := 32) recV_len recV_one Try.underlying69 (i := Try.t23) rfl rfl rfl rfl rfl (by decide) rfl rfl (by first | rfl | omega) (by rw [List.length_drop]) .h (rdsD recV_len k (by omega) (oslR (.t (.t .h)))) (isortTo_next (by assumption) (by first | exact .inl (by omega) | exact .inr (by assumption))) (by rw [isortTo_len]; omega) (by rw [isortTo_len]; omega) ?_
            intro a_59 c_60
            refine ⟨.inl (by simp), ?_⟩
            refine anyS_takeF (i := 14) rfl (by kernel_rfl) (by kernel_rfl) (by kernel_rfl) (by kernel_rfl) (Yq.of (v := .slice a_59 ((isortTo sq l (i + 1)).length) c_60) (y_assign rfl) rfl) ?_
            refine anyS_done (by kernel_rfl) ?_
            refine blockS_n ?_
            refine thenS_n ?_
            refine wpS_region ?_
            refine s_y (v := .int .i64 (((i : Nat) : Int))) (y_move h6_3) rfl ?_
            refine s_y (v := .int .i64 ((((i + 1) : Nat) : Int))) (y_add (a := ((i : Nat) : Int)) (b := 1) (c := (((i + 1) : Nat) : Int)) rfl rfl (wI (by omega) (by omega) (by omega))) rfl ?_
            refine s_y (v := .int .i64 ((((i + 1) : Nat) : Int))) (y_assign rfl) rfl ?_
            refine wpL_nil ?_
            refine thenS_n ?_
            exact ⟨_, by omega, ⟨(i + 1), a_59, c_60, rfl, by omega, rfl, h0_3, h1_3, rfl, rfl, .p .h .nil⟩⟩
          · -- number 1 first
            refine opS_0 rfl rfl ?_
            refine OpE.y (v := .int .i64 (((k : Nat) : Int))) (y_move h7_3) ?_
            refine ⟨.inr (.p (.t .h) .nil), ?_⟩
            refine anyS_all (rs := [0]) (by kernel_rfl) (by simp) ?_
            intro i hi; obtain rfl := List.mem_singleton.1 hi; clear hi
            refine opS_0 rfl rfl ?_
            refine OpE.y (v := .slice a1 ((isortTo sq l i).length) c1) (y_move h5_3) ?_
            refine ⟨.inr (.p (.t .h) .nil), ?_⟩
            refine anyS_take (i := 2) rfl (by kernel_rfl) (by kernel_rfl) (by kernel_rfl) (by kernel_rfl) (Yq.of (v := .slice a1 k c1) (y_sliceH (h' := k) rfl rfl Try.underlying69 Try.sizeOf23 (by omega) (by omega) (by omega)) rfl) (.p (.t .h) .nil) ?_
            refine anyS_all (rs := [3]) (by kernel_rfl) (by simp) ?_
            intro i hi; obtain rfl := List.mem_singleton.1 hi; clear hi
            refine opS_0 rfl rfl ?_
            refine OpE.ent (fun w hs => SH.nil0 (sz := 4) (t := 23) w hs) ?_
            refine e_appendL (enc := recV) (xs := ([] : List Rec)) (ns := ((isortTo sq l i).take k : List Rec)) (zs := ((isortTo sq l i).take k)) (bytes := 32) recV_len recV_one Try.underlying69 (i := Try.t23) rfl rfl rfl rfl rfl (by decide) rfl rfl (by first | rfl | omega) (by rw [List.length_take]; omega) .h (rdsT recV_len k (oslR (.t (.t .h)))) (List.nil_append _) (by rw [List.length_take]; omega) (by rw [List.length_take]; omega) ?_
            intro a_61 c_62
            refine ⟨.inl (by simp), ?_⟩
            refine anyS_all (rs := [9]) (by kernel_rfl) (by simp) ?_
            intro i hi; obtain rfl := List.mem_singleton.1 hi; clear hi
            refine opS_0 rfl rfl ?_
            refine e_appendL (enc := recV) (xs := (((isortTo sq l i).take k) : List Rec)) (ns := ([(l.getD i default)] : List Rec)) (zs := ((isortTo sq l i).take k ++ [(l.getD i default)])) (bytes := 32) recV_len recV_one Try.underlying69 (i := Try.t23) rfl rfl rfl rfl rfl (by decide) rfl rfl (by first | rfl | omega) (by first | rfl | omega) .h (fun w hs => celR (.t .h) w hs) rfl (by rw [List.length_append, List.length_take]; simp only [List.length_cons, List.length_nil]; omega) (by rw [List.length_append, List.length_take]; simp only [List.length_cons, List.length_nil]; omega) ?_
            intro a_63 c_64
            refine ⟨.inl (by simp), ?_⟩
            refine anyS_all (rs := [13]) (by kernel_rfl) (by simp) ?_
            intro i hi; obtain rfl := List.mem_singleton.1 hi; clear hi
            refine opS_0 rfl rfl ?_
            refine e_appendL (enc := recV) (xs := (((isortTo sq l i).take k ++ [(l.getD i default)]) : List Rec)) (ns := ((isortTo sq l i).drop k : List Rec)) (zs := (isortTo sq l (i + 1))) (bytes := 32) recV_len recV_one Try.underlying69 (i := Try.t23) rfl rfl rfl rfl rfl (by decide) rfl rfl (by first | rfl | omega) (by rw [List.length_drop]) .h (rdsD recV_len k (by omega) (oslR (.t (.t .h)))) (isortTo_next (by assumption) (by first | exact .inl (by omega) | exact .inr (by assumption))) (by rw [isortTo_len]; omega) (by rw [isortTo_len]; omega) ?_
            intro a_65 c_66
            refine ⟨.inl (by simp), ?_⟩
            refine anyS_takeF (i := 14) rfl (by kernel_rfl) (by kernel_rfl) (by kernel_rfl) (by kernel_rfl) (Yq.of (v := .slice a_65 ((isortTo sq l (i + 1)).length) c_66) (y_assign rfl) rfl) ?_
            refine anyS_done (by kernel_rfl) ?_
            refine blockS_n ?_
            refine thenS_n ?_
            refine wpS_region ?_
            refine s_y (v := .int .i64 (((i : Nat) : Int))) (y_move h6_3) rfl ?_
            refine s_y (v := .int .i64 ((((i + 1) : Nat) : Int))) (y_add (a := ((i : Nat) : Int)) (b := 1) (c := (((i + 1) : Nat) : Int)) rfl rfl (wI (by omega) (by omega) (by omega))) rfl ?_
            refine s_y (v := .int .i64 ((((i + 1) : Nat) : Int))) (y_assign rfl) rfl ?_
            refine wpL_nil ?_
            refine thenS_n ?_
            exact ⟨_, by omega, ⟨(i + 1), a_65, c_66, rfl, by omega, rfl, h0_3, h1_3, rfl, rfl, .p .h .nil⟩⟩
    · -- decide ((0 : Nat) < k) False
      have p4 := of_decide_eq_false b4
      refine x_no rfl rfl rfl rfl (b' := decide ((0 : Nat) < k)) rfl b4 ?_
      refine x_no rfl rfl rfl rfl (b' := decide ((0 : Nat) < k)) rfl b4 ?_
      refine x_no rfl rfl rfl rfl (b' := decide ((0 : Nat) < k)) rfl b4 ?_
      refine x_no rfl rfl rfl rfl (b' := decide ((0 : Nat) < k)) rfl b4 ?_
      refine x_no rfl rfl rfl rfl (b' := decide ((0 : Nat) < k)) rfl b4 ?_
      refine x_no rfl rfl rfl rfl (b' := decide ((0 : Nat) < k)) rfl b4 ?_
      refine x_no rfl rfl rfl rfl (b' := decide ((0 : Nat) < k)) rfl b4 ?_
      refine x_no rfl rfl rfl rfl (b' := decide ((0 : Nat) < k)) rfl b4 ?_
      refine x_no rfl rfl rfl rfl (b' := decide ((0 : Nat) < k)) rfl b4 ?_
      refine x_no rfl rfl rfl rfl (b' := decide ((0 : Nat) < k)) rfl b4 ?_
      refine x_no rfl rfl rfl rfl (b' := decide ((0 : Nat) < k)) rfl b4 ?_
      refine x_y (v := .bool false) (y_pickF (b := decide ((0 : Nat) < k)) (v := .bool false) rfl b4 rfl) rfl ?_
      refine x_nil ?_
      refine thenS_n ?_
      refine wpS_cond_f rfl ?_
      refine wpS_exit ?_
      refine thenS_x ?_
      refine thenS_x ?_
      refine blockS_h ?_
      refine thenS_n ?_
      refine wpS_any [3, 4, 5, 6, 7, 9, 10, 11, 12, 13, 14] (by kernel_rfl) ?_
      refine anyS_takeF (i := 4) rfl (by kernel_rfl) (by kernel_rfl) (by kernel_rfl) (by kernel_rfl) (Yq.of (v := .slice a n c) (y_move h0_3) rfl) ?_
      refine anyS_takeF (i := 5) rfl (by kernel_rfl) (by kernel_rfl) (by kernel_rfl) (by kernel_rfl) (Yq.of (v := .int .i64 (((i : Nat) : Int))) (y_move h6_3) rfl) ?_
      refine anyS_takeF (i := 6) rfl (by kernel_rfl) (by kernel_rfl) (by kernel_rfl) (by kernel_rfl) (Yq.of (v := .pointer (some ⟨aB a, aO a + i * 4, none⟩)) (y_idx (o := i * 4) rfl rfl Try.underlying69 Try.sizeOf23 (oldR hr) ((fl_len recV_len _).trans (by first | omega | (simp only [List.length_set, List.length_take, List.length_drop]; done) | (simp only [List.length_set, List.length_take, List.length_drop]; omega))) (by decide) (by omega) (by omega) (by omega)) rfl) ?_
      refine anyS_takeF (i := 7) rfl (by kernel_rfl) (by kernel_rfl) (by kernel_rfl) (by kernel_rfl) (Yq.of (v := .agg #[.bool ((l.getD i default).dead), .int .i64 (((l.getD i default).key).toInt), .int .i64 (((l.getD i default).value).toInt), .int .i64 (((l.getD i default).seq).toInt)]) (y_loadN (vs := recV (l.getD i default)) rfl Try.isAgg23 Try.sizeOf23 (rdN (oldR hr) (fl_getN recV_len l i (by first | omega | (simp only [List.length_set, List.length_take, List.length_drop]; done) | (simp only [List.length_set, List.length_take, List.length_drop]; omega))))) rfl) ?_
      refine anyS_takeF (i := 10) rfl (by kernel_rfl) (by kernel_rfl) (by kernel_rfl) (by kernel_rfl) (Yq.of (v := .slice a1 ((isortTo sq l i).length) c1) (y_move h5_3) rfl) ?_
      refine anyS_takeF (i := 11) rfl (by kernel_rfl) (by kernel_rfl) (by kernel_rfl) (by kernel_rfl) (Yq.of (v := .int .i64 (((k : Nat) : Int))) (y_move h7_3) rfl) ?_
      refine anyS_takeF (i := 12) rfl (by kernel_rfl) (by kernel_rfl) (by kernel_rfl) (by kernel_rfl) (Yq.of (v := .slice (subA a1 c1 k 4) ((isortTo sq l i).length - k) (c1 - k)) (y_sliceL (l' := k) rfl rfl Try.underlying69 Try.sizeOf23 (by omega) (by omega) (by omega)) rfl) ?_
      refine anyS_all (rs := [0, 1, 8]) (by kernel_rfl) (by simp) ?_
      intro i hi67; simp only [List.mem_cons, List.not_mem_nil, or_false] at hi67; rcases hi67 with rfl | rfl | rfl
      · -- number 0 first
        refine opS_0 rfl rfl ?_
        refine OpE.y (v := .slice a1 ((isortTo sq l i).length) c1) (y_move h5_3) ?_
        refine ⟨.inr (.p .h .nil), ?_⟩
        refine anyS_all (rs := [1, 8]) (by kernel_rfl) (by simp) ?_
        intro i hi68; simp only [List.mem_cons, List.not_mem_nil, or_false] at hi68; rcases hi68 with rfl | rfl
        · -- number 1 first
          refine opS_0 rfl rfl ?_
          refine OpE.y (v := .int .i64 (((k : Nat) : Int))) (y_move h7_3) ?_
          refine ⟨.inr (.p .h .nil), ?_⟩
          refine anyS_take (i := 2) rfl (by kernel_rfl) (by kernel_rfl) (by kernel_rfl) (by kernel_rfl) (Yq.of (v := .slice a1 k c1) (y_sliceH (h' := k) rfl rfl Try.underlying69 Try.sizeOf23 (by omega) (by omega) (by omega)) rfl) (.p .h .nil) ?_
          refine anyS_all (rs := [3, 8]) (by kernel_rfl) (by simp) ?_
          intro i hi69; simp only [List.mem_cons, List.not_mem_nil, or_false] at hi69; rcases hi69 with rfl | rfl
          · -- number 3 first
            refine opS_0 rfl rfl ?_
            refine OpE.ent (fun w hs => SH.nil0 (sz := 4) (t := 23) w hs) ?_
            refine e_appendL (enc := recV) (xs := ([] : List Rec)) (ns := ((isortTo sq l i).take k : List Rec)) (zs := ((isortTo sq l i).take k)) (bytes := 32) recV_len recV_one Try.underlying69 (i := Try.t23) rfl rfl rfl rfl rfl (by decide) rfl rfl (by first | rfl | omega) (by rw [List.length_take]; omega) .h (rdsT recV_len k (oslR (.t .h))) (List.nil_append _) (by rw [List.length_take]; omega) (by rw [List.length_take]; omega) ?_
            intro a_70 c_71
            refine ⟨.inl (by simp), ?_⟩
            refine anyS_all (rs := [8]) (by kernel_rfl) (by simp) ?_
            intro i hi; obtain rfl := List.mem_singleton.1 hi; clear hi
            refine opS_0 rfl rfl ?_
            refine e_bsliceL (e := 23) (m := [(0, .agg #[.bool ((l.getD i default).dead), .int .i64 (((l.getD i default).key).toInt), .int .i64 (((l.getD i default).value).toInt), .int .i64 (((l.getD i default).seq).toInt)])]) (l := [.bool ((l.getD i default).dead), .int .i64 (((l.getD i default).key).toInt), .int .i64 (((l.getD i default).value).toInt), .int .i64 (((l.getD i default).seq).toInt)]) (evc rfl evn) (fun w => by kernel_rfl) ?_
            intro b_72
            refine ⟨.inr (.p (.t (.t .h)) .nil), ?_⟩
            refine anyS_all (rs := [9]) (by kernel_rfl) (by simp) ?_
            intro i hi; obtain rfl := List.mem_singleton.1 hi; clear hi
            refine opS_0 rfl rfl ?_
            refine e_appendL (enc := recV) (xs := (((isortTo sq l i).take k) : List Rec)) (ns := ([(l.getD i default)] : List Rec)) (zs := ((isortTo sq l i).take k ++ [(l.getD i default)])) (bytes := 32) recV_len recV_one Try.underlying69 (i := Try.t23) rfl rfl rfl rfl rfl (by decide) rfl rfl (by first | rfl | omega) (by first | rfl | omega) (.t .h) (fun w hs => celR .h w hs) rfl (by rw [List.length_append, List.length_take]; simp only [List.length_cons, List.length_nil]; omega) (by rw [List.length_append, List.length_take]; simp only [List.length_cons, List.length_nil]; omega) ?_
            intro a_73 c_74
            refine ⟨.inl (by simp), ?_⟩
            refine anyS_all (rs := [13]) (by kernel_rfl) (by simp) ?_
            intro i hi; obtain rfl := List.mem_singleton.1 hi; clear hi
            refine opS_0 rfl rfl ?_
            refine e_appendL (enc := recV) (xs := (((isortTo sq l i).take k ++ [(l.getD i default)]) : List Rec)) (ns := ((isortTo sq l i).drop k : List Rec)) (zs := (isortTo sq l (i + 1))) (bytes := 32) recV_len recV_one Try.underlying69 (i := Try.t23) rfl rfl rfl rfl rfl (by decide) rfl rfl (by first | rfl | omega) (by rw [List.length_drop]) .h (rdsD recV_len k (by omega) (oslR (.t (.t .h)))) (isortTo_next (by assumption) (by first | exact .inl (by omega) | exact .inr (by assumption))) (by rw [isortTo_len]; omega) (by rw [isortTo_len]; omega) ?_
            intro a_75 c_76
            refine ⟨.inl (by simp), ?_⟩
            refine anyS_takeF (i := 14) rfl (by kernel_rfl) (by kernel_rfl) (by kernel_rfl) (by kernel_rfl) (Yq.of (v := .slice a_75 ((isortTo sq l (i + 1)).length) c_76) (y_assign rfl) rfl) ?_
            refine anyS_done (by kernel_rfl) ?_
            refine blockS_n ?_
            refine thenS_n ?_
            refine wpS_region ?_
            refine s_y (v := .int .i64 (((i : Nat) : Int))) (y_move h6_3) rfl ?_
            refine s_y (v := .int .i64 ((((i + 1) : Nat) : Int))) (y_add (a := ((i : Nat) : Int)) (b := 1) (c := (((i + 1) : Nat) : Int)) rfl rfl (wI (by omega) (by omega) (by omega))) rfl ?_
            refine s_y (v := .int .i64 ((((i + 1) : Nat) : Int))) (y_assign rfl) rfl ?_
            refine wpL_nil ?_
            refine thenS_n ?_
            exact ⟨_, by omega, ⟨(i + 1), a_75, c_76, rfl, by omega, rfl, h0_3, h1_3, rfl, rfl, .p .h .nil⟩⟩
          · -- number 8 first
            refine opS_0 rfl rfl ?_
            refine e_bsliceL (e := 23) (m := [(0, .agg #[.bool ((l.getD i default).dead), .int .i64 (((l.getD i default).key).toInt), .int .i64 (((l.getD i default).value).toInt), .int .i64 (((l.getD i default).seq).toInt)])]) (l := [.bool ((l.getD i default).dead), .int .i64 (((l.getD i default).key).toInt), .int .i64 (((l.getD i default).value).toInt), .int .i64 (((l.getD i default).seq).toInt)]) (evc rfl evn) (fun w => by kernel_rfl) ?_
            intro b_77
            refine ⟨.inr (.p (.t .h) .nil), ?_⟩
            refine anyS_all (rs := [3]) (by kernel_rfl) (by simp) ?_
            intro i hi; obtain rfl := List.mem_singleton.1 hi; clear hi
            refine opS_0 rfl rfl ?_
            refine OpE.ent (fun w hs => SH.nil0 (sz := 4) (t := 23) w hs) ?_
            refine e_appendL (enc := recV) (xs := ([] : List Rec)) (ns := ((isortTo sq l i).take k : List Rec)) (zs := ((isortTo sq l i).take k)) (bytes := 32) recV_len recV_one Try.underlying69 (i := Try.t23) rfl rfl rfl rfl rfl (by decide) rfl rfl (by first | rfl | omega) (by rw [List.length_take]; omega) .h (rdsT recV_len k (oslR (.t (.t .h)))) (List.nil_append _) (by rw [List.length_take]; omega) (by rw [List.length_take]; omega) ?_
            intro a_78 c_79
            refine ⟨.inl (by simp), ?_⟩
            refine anyS_all (rs := [9]) (by kernel_rfl) (by simp) ?_
            intro i hi; obtain rfl := List.mem_singleton.1 hi; clear hi
            refine opS_0 rfl rfl ?_
            refine e_appendL (enc := recV) (xs := (((isortTo sq l i).take k) : List Rec)) (ns := ([(l.getD i default)] : List Rec)) (zs := ((isortTo sq l i).take k ++ [(l.getD i default)])) (bytes := 32) recV_len recV_one Try.underlying69 (i := Try.t23) rfl rfl rfl rfl rfl (by decide) rfl rfl (by first | rfl | omega) (by first | rfl | omega) .h (fun w hs => celR (.t .h) w hs) rfl (by rw [List.length_append, List.length_take]; simp only [List.length_cons, List.length_nil]; omega) (by rw [List.length_append, List.length_take]; simp only [List.length_cons, List.length_nil]; omega) ?_
            intro a_80 c_81
            refine ⟨.inl (by simp), ?_⟩
            refine anyS_all (rs := [13]) (by kernel_rfl) (by simp) ?_
            intro i hi; obtain rfl := List.mem_singleton.1 hi; clear hi
            refine opS_0 rfl rfl ?_
            refine e_appendL (enc := recV) (xs := (((isortTo sq l i).take k ++ [(l.getD i default)]) : List Rec)) (ns := ((isortTo sq l i).drop k : List Rec)) (zs := (isortTo sq l (i + 1))) (bytes := 32) recV_len recV_one Try.underlying69 (i := Try.t23) rfl rfl rfl rfl rfl (by decide) rfl rfl (by first | rfl | omega) (by rw [List.length_drop]) .h (rdsD recV_len k (by omega) (oslR (.t (.t .h)))) (isortTo_next (by assumption) (by first | exact .inl (by omega) | exact .inr (by assumption))) (by rw [isortTo_len]; omega) (by rw [isortTo_len]; omega) ?_
            intro a_82 c_83
            refine ⟨.inl (by simp), ?_⟩
            refine anyS_takeF (i := 14) rfl (by kernel_rfl) (by kernel_rfl) (by kernel_rfl) (by kernel_rfl) (Yq.of (v := .slice a_82 ((isortTo sq l (i + 1)).length) c_83) (y_assign rfl) rfl) ?_
            refine anyS_done (by kernel_rfl) ?_
            refine blockS_n ?_
            refine thenS_n ?_
            refine wpS_region ?_
            refine s_y (v := .int .i64 (((i : Nat) : Int))) (y_move h6_3) rfl ?_
            refine s_y (v := .int .i64 ((((i + 1) : Nat) : Int))) (y_add (a := ((i : Nat) : Int)) (b := 1) (c := (((i + 1) : Nat) : Int)) rfl rfl (wI (by omega) (by omega) (by omega))) rfl ?_
            refine s_y (v := .int .i64 ((((i + 1) : Nat) : Int))) (y_assign rfl) rfl ?_
            refine wpL_nil ?_
            refine thenS_n ?_
            exact ⟨_, by omega, ⟨(i + 1), a_82, c_83, rfl, by omega, rfl, h0_3, h1_3, rfl, rfl, .p .h .nil⟩⟩
        · -- number 8 first
          refine opS_0 rfl rfl ?_
          refine e_bsliceL (e := 23) (m := [(0, .agg #[.bool ((l.getD i default).dead), .int .i64 (((l.getD i default).key).toInt), .int .i64 (((l.getD i default).value).toInt), .int .i64 (((l.getD i default).seq).toInt)])]) (l := [.bool ((l.getD i default).dead), .int .i64 (((l.getD i default).key).toInt), .int .i64 (((l.getD i default).value).toInt), .int .i64 (((l.getD i default).seq).toInt)]) (evc rfl evn) (fun w => by kernel_rfl) ?_
          intro b_84
          refine ⟨.inr (.p (.t .h) .nil), ?_⟩
          refine anyS_all (rs := [1]) (by kernel_rfl) (by simp) ?_
          intro i hi; obtain rfl := List.mem_singleton.1 hi; clear hi
          refine opS_0 rfl rfl ?_
          refine OpE.y (v := .int .i64 (((k : Nat) : Int))) (y_move h7_3) ?_
          refine ⟨.inr (.p (.t .h) .nil), ?_⟩
          refine anyS_take (i := 2) rfl (by kernel_rfl) (by kernel_rfl) (by kernel_rfl) (by kernel_rfl) (Yq.of (v := .slice a1 k c1) (y_sliceH (h' := k) rfl rfl Try.underlying69 Try.sizeOf23 (by omega) (by omega) (by omega)) rfl) (.p (.t .h) .nil) ?_
          refine anyS_all (rs := [3]) (by kernel_rfl) (by simp) ?_
          intro i hi; obtain rfl := List.mem_singleton.1 hi; clear hi
          refine opS_0 rfl rfl ?_
          refine OpE.ent (fun w hs => SH.nil0 (sz := 4) (t := 23) w hs) ?_
          refine e_appendL (enc := recV) (xs := ([] : List Rec)) (ns := ((isortTo sq l i).take k : List Rec)) (zs := ((isortTo sq l i).take k)) (bytes := 32) recV_len recV_one Try.underlying69 (i := Try.t23) rfl rfl rfl rfl rfl (by decide) rfl rfl (by first | rfl | omega) (by rw [List.length_take]; omega) .h (rdsT recV_len k (oslR (.t (.t .h)))) (List.nil_append _) (by rw [List.length_take]; omega) (by rw [List.length_take]; omega) ?_
          intro a_85 c_86
          refine ⟨.inl (by simp), ?_⟩
          refine anyS_all (rs := [9]) (by kernel_rfl) (by simp) ?_
          intro i hi; obtain rfl := List.mem_singleton.1 hi; clear hi
          refine opS_0 rfl rfl ?_
          refine e_appendL (enc := recV) (xs := (((isortTo sq l i).take k) : List Rec)) (ns := ([(l.getD i default)] : List Rec)) (zs := ((isortTo sq l i).take k ++ [(l.getD i default)])) (bytes := 32) recV_len recV_one Try.underlying69 (i := Try.t23) rfl rfl rfl rfl rfl (by decide) rfl rfl (by first | rfl | omega) (by first | rfl | omega) .h (fun w hs => celR (.t .h) w hs) rfl (by rw [List.length_append, List.length_take]; simp only [List.length_cons, List.length_nil]; omega) (by rw [List.length_append, List.length_take]; simp only [List.length_cons, List.length_nil]; omega) ?_
          intro a_87 c_88
          refine ⟨.inl (by simp), ?_⟩
          refine anyS_all (rs := [13]) (by kernel_rfl) (by simp) ?_
          intro i hi; obtain rfl := List.mem_singleton.1 hi; clear hi
          refine opS_0 rfl rfl ?_
          refine e_appendL (enc := recV) (xs := (((isortTo sq l i).take k ++ [(l.getD i default)]) : List Rec)) (ns := ((isortTo sq l i).drop k : List Rec)) (zs := (isortTo sq l (i + 1))) (bytes := 32) recV_len recV_one Try.underlying69 (i := Try.t23) rfl rfl rfl rfl rfl (by decide) rfl rfl (by first | rfl | omega) (by rw [List.length_drop]) .h (rdsD recV_len k (by omega) (oslR (.t (.t .h)))) (isortTo_next (by assumption) (by first | exact .inl (by omega) | exact .inr (by assumption))) (by rw [isortTo_len]; omega) (by rw [isortTo_len]; omega) ?_
          intro a_89 c_90
          refine ⟨.inl (by simp), ?_⟩
          refine anyS_takeF (i := 14) rfl (by kernel_rfl) (by kernel_rfl) (by kernel_rfl) (by kernel_rfl) (Yq.of (v := .slice a_89 ((isortTo sq l (i + 1)).length) c_90) (y_assign rfl) rfl) ?_
          refine anyS_done (by kernel_rfl) ?_
          refine blockS_n ?_
          refine thenS_n ?_
          refine wpS_region ?_
          refine s_y (v := .int .i64 (((i : Nat) : Int))) (y_move h6_3) rfl ?_
          refine s_y (v := .int .i64 ((((i + 1) : Nat) : Int))) (y_add (a := ((i : Nat) : Int)) (b := 1) (c := (((i + 1) : Nat) : Int)) rfl rfl (wI (by omega) (by omega) (by omega))) rfl ?_
          refine s_y (v := .int .i64 ((((i + 1) : Nat) : Int))) (y_assign rfl) rfl ?_
          refine wpL_nil ?_
          refine thenS_n ?_
          exact ⟨_, by omega, ⟨(i + 1), a_89, c_90, rfl, by omega, rfl, h0_3, h1_3, rfl, rfl, .p .h .nil⟩⟩
      · -- number 1 first
        refine opS_0 rfl rfl ?_
        refine OpE.y (v := .int .i64 (((k : Nat) : Int))) (y_move h7_3) ?_
        refine ⟨.inr (.p .h .nil), ?_⟩
        refine anyS_all (rs := [0, 8]) (by kernel_rfl) (by simp) ?_
        intro i hi91; simp only [List.mem_cons, List.not_mem_nil, or_false] at hi91; rcases hi91 with rfl | rfl
        · -- number 0 first
          refine opS_0 rfl rfl ?_
          refine OpE.y (v := .slice a1 ((isortTo sq l i).length) c1) (y_move h5_3) ?_
          refine ⟨.inr (.p .h .nil), ?_⟩
          refine anyS_take (i := 2) rfl (by kernel_rfl) (by kernel_rfl) (by kernel_rfl) (by kernel_rfl) (Yq.of (v := .slice a1 k c1) (y_sliceH (h' := k) rfl rfl Try.underlying69 Try.sizeOf23 (by omega) (by omega) (by omega)) rfl) (.p .h .nil) ?_
          refine anyS_all (rs := [3, 8]) (by kernel_rfl) (by simp) ?_
          intro i hi92; simp only [List.mem_cons, List.not_mem_nil, or_false] at hi92; rcases hi92 with rfl | rfl
          · -- number 3 first
            refine opS_0 rfl rfl ?_
            refine OpE.ent (fun w hs => SH.nil0 (sz := 4) (t := 23) w hs) ?_
            refine e_appendL (enc := recV) (xs := ([] : List Rec)) (ns := ((isortTo sq l i).take k : List Rec)) (zs := ((isortTo sq l i).take k)) (bytes := 32) recV_len recV_one Try.underlying69 (i := Try.t23) rfl rfl rfl rfl rfl (by decide) rfl rfl (by first | rfl | omega) (by rw [List.length_take]; omega) .h (rdsT recV_len k (oslR (.t .h))) (List.nil_append _) (by rw [List.length_take]; omega) (by rw [List.length_take]; omega) ?_
            intro a_93 c_94
            refine ⟨.inl (by simp), ?_⟩
            refine anyS_all (rs := [8]) (by kernel_rfl) (by simp) ?_
            intro i hi; obtain rfl := List.mem_singleton.1 hi; clear hi
            refine opS_0 rfl rfl ?_
            refine e_bsliceL (e := 23) (m := [(0, .agg #[.bool ((l.getD i default).dead), .int .i64 (((l.getD i default).key).toInt), .int .i64 (((l.getD i default).value).toInt), .int .i64 (((l.getD i default).seq).toInt)])]) (l := [.bool ((l.getD i default).dead), .int .i64 (((l.getD i default).key).toInt), .int .i64 (((l.getD i default).value).toInt), .int .i64 (((l.getD i default).seq).toInt)]) (evc rfl evn) (fun w => by kernel_rfl) ?_
            intro b_95
            refine ⟨.inr (.p (.t (.t .h)) .nil), ?_⟩
            refine anyS_all (rs := [9]) (by kernel_rfl) (by simp) ?_
            intro i hi; obtain rfl := List.mem_singleton.1 hi; clear hi
            refine opS_0 rfl rfl ?_
            refine e_appendL (enc := recV) (xs := (((isortTo sq l i).take k) : List Rec)) (ns := ([(l.getD i default)] : List Rec)) (zs := ((isortTo sq l i).take k ++ [(l.getD i default)])) (bytes := 32) recV_len recV_one Try.underlying69 (i := Try.t23) rfl rfl rfl rfl rfl (by decide) rfl rfl (by first | rfl | omega) (by first | rfl | omega) (.t .h) (fun w hs => celR .h w hs) rfl (by rw [List.length_append, List.length_take]; simp only [List.length_cons, List.length_nil]; omega) (by rw [List.length_append, List.length_take]; simp only [List.length_cons, List.length_nil]; omega) ?_
            intro a_96 c_97
            refine ⟨.inl (by simp), ?_⟩
            refine anyS_all (rs := [13]) (by kernel_rfl) (by simp) ?_
            intro i hi; obtain rfl := List.mem_singleton.1 hi; clear hi
            refine opS_0 rfl rfl ?_
            refine e_appendL (enc := recV) (xs := (((isortTo sq l i).take k ++ [(l.getD i default)]) : List Rec)) (ns := ((isortTo sq l i).drop k : List Rec)) (zs := (isortTo sq l (i + 1))) (bytes := 32) recV_len recV_one Try.underlying69 (i := Try.t23) rfl rfl rfl rfl rfl (by decide) rfl rfl (by first | rfl | omega) (by rw [List.length_drop]) .h (rdsD recV_len k (by omega) (oslR (.t (.t .h)))) (isortTo_next (by assumption) (by first | exact .inl (by omega) | exact .inr (by assumption))) (by rw [isortTo_len]; omega) (by rw [isortTo_len]; omega) ?_
            intro a_98 c_99
            refine ⟨.inl (by simp), ?_⟩
            refine anyS_takeF (i := 14) rfl (by kernel_rfl) (by kernel_rfl) (by kernel_rfl) (by kernel_rfl) (Yq.of (v := .slice a_98 ((isortTo sq l (i + 1)).length) c_99) (y_assign rfl) rfl) ?_
            refine anyS_done (by kernel_rfl) ?_
            refine blockS_n ?_
            refine thenS_n ?_
            refine wpS_region ?_
            refine s_y (v := .int .i64 (((i : Nat) : Int))) (y_move h6_3) rfl ?_
            refine s_y (v := .int .i64 ((((i + 1) : Nat) : Int))) (y_add (a := ((i : Nat) : Int)) (b := 1) (c := (((i + 1) : Nat) : Int)) rfl rfl (wI (by omega) (by omega) (by omega))) rfl ?_
            refine s_y (v := .int .i64 ((((i + 1) : Nat) : Int))) (y_assign rfl) rfl ?_
            refine wpL_nil ?_
            refine thenS_n ?_
            exact ⟨_, by omega, ⟨(i + 1), a_98, c_99, rfl, by omega, rfl, h0_3, h1_3, rfl, rfl, .p .h .nil⟩⟩
          · -- number 8 first
            refine opS_0 rfl rfl ?_
            refine e_bsliceL (e := 23) (m := [(0, .agg #[.bool ((l.getD i default).dead), .int .i64 (((l.getD i default).key).toInt), .int .i64 (((l.getD i default).value).toInt), .int .i64 (((l.getD i default).seq).toInt)])]) (l := [.bool ((l.getD i default).dead), .int .i64 (((l.getD i default).key).toInt), .int .i64 (((l.getD i default).value).toInt), .int .i64 (((l.getD i default).seq).toInt)]) (evc rfl evn) (fun w => by kernel_rfl) ?_
            intro b_100
            refine ⟨.inr (.p (.t .h) .nil), ?_⟩
            refine anyS_all (rs := [3]) (by kernel_rfl) (by simp) ?_
            intro i hi; obtain rfl := List.mem_singleton.1 hi; clear hi
            refine opS_0 rfl rfl ?_
            refine OpE.ent (fun w hs => SH.nil0 (sz := 4) (t := 23) w hs) ?_
            refine e_appendL (enc := recV) (xs := ([] : List Rec)) (ns := ((isortTo sq l i).take k : List Rec)) (zs := ((isortTo sq l i).take k)) (bytes := 32) recV_len recV_one Try.underlying69 (i := Try.t23) rfl rfl rfl rfl rfl (by decide) rfl rfl (by first | rfl | omega) (by rw [List.length_take]; omega) .h (rdsT recV_len k (oslR (.t (.t .h)))) (List.nil_append _) (by rw [List.length_take]; omega) (by rw [List.length_take]; omega) ?_
            intro a_101 c_102
            refine ⟨.inl (by simp), ?_⟩
            refine anyS_all (rs := [9]) (by kernel_rfl) (by simp) ?_
            intro i hi; obtain rfl := List.mem_singleton.1 hi; clear hi
            refine opS_0 rfl rfl ?_
            refine e_appendL (enc := recV) (xs := (((isortTo sq l i).take k) : List Rec)) (ns := ([(l.getD i default)] : List Rec)) (zs := ((isortTo sq l i).take k ++ [(l.getD i default)])) (bytes := 32) recV_len recV_one Try.underlying69 (i := Try.t23) rfl rfl rfl rfl rfl (by decide) rfl rfl (by first | rfl | omega) (by first | rfl | omega) .h (fun w hs => celR (.t .h) w hs) rfl (by rw [List.length_append, List.length_take]; simp only [List.length_cons, List.length_nil]; omega) (by rw [List.length_append, List.length_take]; simp only [List.length_cons, List.length_nil]; omega) ?_
            intro a_103 c_104
            refine ⟨.inl (by simp), ?_⟩
            refine anyS_all (rs := [13]) (by kernel_rfl) (by simp) ?_
            intro i hi; obtain rfl := List.mem_singleton.1 hi; clear hi
            refine opS_0 rfl rfl ?_
            refine e_appendL (enc := recV) (xs := (((isortTo sq l i).take k ++ [(l.getD i default)]) : List Rec)) (ns := ((isortTo sq l i).drop k : List Rec)) (zs := (isortTo sq l (i + 1))) (bytes := 32) recV_len recV_one Try.underlying69 (i := Try.t23) rfl rfl rfl rfl rfl (by decide) rfl rfl (by first | rfl | omega) (by rw [List.length_drop]) .h (rdsD recV_len k (by omega) (oslR (.t (.t .h)))) (isortTo_next (by assumption) (by first | exact .inl (by omega) | exact .inr (by assumption))) (by rw [isortTo_len]; omega) (by rw [isortTo_len]; omega) ?_
            intro a_105 c_106
            refine ⟨.inl (by simp), ?_⟩
            refine anyS_takeF (i := 14) rfl (by kernel_rfl) (by kernel_rfl) (by kernel_rfl) (by kernel_rfl) (Yq.of (v := .slice a_105 ((isortTo sq l (i + 1)).length) c_106) (y_assign rfl) rfl) ?_
            refine anyS_done (by kernel_rfl) ?_
            refine blockS_n ?_
            refine thenS_n ?_
            refine wpS_region ?_
            refine s_y (v := .int .i64 (((i : Nat) : Int))) (y_move h6_3) rfl ?_
            refine s_y (v := .int .i64 ((((i + 1) : Nat) : Int))) (y_add (a := ((i : Nat) : Int)) (b := 1) (c := (((i + 1) : Nat) : Int)) rfl rfl (wI (by omega) (by omega) (by omega))) rfl ?_
            refine s_y (v := .int .i64 ((((i + 1) : Nat) : Int))) (y_assign rfl) rfl ?_
            refine wpL_nil ?_
            refine thenS_n ?_
            exact ⟨_, by omega, ⟨(i + 1), a_105, c_106, rfl, by omega, rfl, h0_3, h1_3, rfl, rfl, .p .h .nil⟩⟩
        · -- number 8 first
          refine opS_0 rfl rfl ?_
          refine e_bsliceL (e := 23) (m := [(0, .agg #[.bool ((l.getD i default).dead), .int .i64 (((l.getD i default).key).toInt), .int .i64 (((l.getD i default).value).toInt), .int .i64 (((l.getD i default).seq).toInt)])]) (l := [.bool ((l.getD i default).dead), .int .i64 (((l.getD i default).key).toInt), .int .i64 (((l.getD i default).value).toInt), .int .i64 (((l.getD i default).seq).toInt)]) (evc rfl evn) (fun w => by kernel_rfl) ?_
          intro b_107
          refine ⟨.inr (.p (.t .h) .nil), ?_⟩
          refine anyS_all (rs := [0]) (by kernel_rfl) (by simp) ?_
          intro i hi; obtain rfl := List.mem_singleton.1 hi; clear hi
          refine opS_0 rfl rfl ?_
          refine OpE.y (v := .slice a1 ((isortTo sq l i).length) c1) (y_move h5_3) ?_
          refine ⟨.inr (.p (.t .h) .nil), ?_⟩
          refine anyS_take (i := 2) rfl (by kernel_rfl) (by kernel_rfl) (by kernel_rfl) (by kernel_rfl) (Yq.of (v := .slice a1 k c1) (y_sliceH (h' := k) rfl rfl Try.underlying69 Try.sizeOf23 (by omega) (by omega) (by omega)) rfl) (.p (.t .h) .nil) ?_
          refine anyS_all (rs := [3]) (by kernel_rfl) (by simp) ?_
          intro i hi; obtain rfl := List.mem_singleton.1 hi; clear hi
          refine opS_0 rfl rfl ?_
          refine OpE.ent (fun w hs => SH.nil0 (sz := 4) (t := 23) w hs) ?_
          refine e_appendL (enc := recV) (xs := ([] : List Rec)) (ns := ((isortTo sq l i).take k : List Rec)) (zs := ((isortTo sq l i).take k)) (bytes := 32) recV_len recV_one Try.underlying69 (i := Try.t23) rfl rfl rfl rfl rfl (by decide) rfl rfl (by first | rfl | omega) (by rw [List.length_take]; omega) .h (rdsT recV_len k (oslR (.t (.t .h)))) (List.nil_append _) (by rw [List.length_take]; omega) (by rw [List.length_take]; omega) ?_
          intro a_108 c_109
          refine ⟨.inl (by simp), ?_⟩
          refine anyS_all (rs := [9]) (by kernel_rfl) (by simp) ?_
          intro i hi; obtain rfl := List.mem_singleton.1 hi; clear hi
          refine opS_0 rfl rfl ?_
          refine e_appendL (enc := recV) (xs := (((isortTo sq l i).take k) : List Rec)) (ns := ([(l.getD i default)] : List Rec)) (zs := ((isortTo sq l i).take k ++ [(l.getD i default)])) (bytes := 32) recV_len recV_one Try.underlying69 (i := Try.t23) rfl rfl rfl rfl rfl (by decide) rfl rfl (by first | rfl | omega) (by first | rfl | omega) .h (fun w hs => celR (.t .h) w hs) rfl (by rw [List.length_append, List.length_take]; simp only [List.length_cons, List.length_nil]; omega) (by rw [List.length_append, List.length_take]; simp only [List.length_cons, List.length_nil]; omega) ?_
          intro a_110 c_111
          refine ⟨.inl (by simp), ?_⟩
          refine anyS_all (rs := [13]) (by kernel_rfl) (by simp) ?_
          intro i hi; obtain rfl := List.mem_singleton.1 hi; clear hi
          refine opS_0 rfl rfl ?_
          refine e_appendL (enc := recV) (xs := (((isortTo sq l i).take k ++ [(l.getD i default)]) : List Rec)) (ns := ((isortTo sq l i).drop k : List Rec)) (zs := (isortTo sq l (i + 1))) (bytes := 32) recV_len recV_one Try.underlying69 (i := Try.t23) rfl rfl rfl rfl rfl (by decide) rfl rfl (by first | rfl | omega) (by rw [List.length_drop]) .h (rdsD recV_len k (by omega) (oslR (.t (.t .h)))) (isortTo_next (by assumption) (by first | exact .inl (by omega) | exact .inr (by assumption))) (by rw [isortTo_len]; omega) (by rw [isortTo_len]; omega) ?_
          intro a_112 c_113
          refine ⟨.inl (by simp), ?_⟩
          refine anyS_takeF (i := 14) rfl (by kernel_rfl) (by kernel_rfl) (by kernel_rfl) (by kernel_rfl) (Yq.of (v := .slice a_112 ((isortTo sq l (i + 1)).length) c_113) (y_assign rfl) rfl) ?_
          refine anyS_done (by kernel_rfl) ?_
          refine blockS_n ?_
          refine thenS_n ?_
          refine wpS_region ?_
          refine s_y (v := .int .i64 (((i : Nat) : Int))) (y_move h6_3) rfl ?_
          refine s_y (v := .int .i64 ((((i + 1) : Nat) : Int))) (y_add (a := ((i : Nat) : Int)) (b := 1) (c := (((i + 1) : Nat) : Int)) rfl rfl (wI (by omega) (by omega) (by omega))) rfl ?_
          refine s_y (v := .int .i64 ((((i + 1) : Nat) : Int))) (y_assign rfl) rfl ?_
          refine wpL_nil ?_
          refine thenS_n ?_
          exact ⟨_, by omega, ⟨(i + 1), a_112, c_113, rfl, by omega, rfl, h0_3, h1_3, rfl, rfl, .p .h .nil⟩⟩
      · -- number 8 first
        refine opS_0 rfl rfl ?_
        refine e_bsliceL (e := 23) (m := [(0, .agg #[.bool ((l.getD i default).dead), .int .i64 (((l.getD i default).key).toInt), .int .i64 (((l.getD i default).value).toInt), .int .i64 (((l.getD i default).seq).toInt)])]) (l := [.bool ((l.getD i default).dead), .int .i64 (((l.getD i default).key).toInt), .int .i64 (((l.getD i default).value).toInt), .int .i64 (((l.getD i default).seq).toInt)]) (evc rfl evn) (fun w => by kernel_rfl) ?_
        intro b_114
        refine ⟨.inr (.p (.t .h) .nil), ?_⟩
        refine anyS_all (rs := [0, 1]) (by kernel_rfl) (by simp) ?_
        intro i hi115; simp only [List.mem_cons, List.not_mem_nil, or_false] at hi115; rcases hi115 with rfl | rfl
        · -- number 0 first
          refine opS_0 rfl rfl ?_
          refine OpE.y (v := .slice a1 ((isortTo sq l i).length) c1) (y_move h5_3) ?_
          refine ⟨.inr (.p (.t .h) .nil), ?_⟩
          refine anyS_all (rs := [1]) (by kernel_rfl) (by simp) ?_
          intro i hi; obtain rfl := List.mem_singleton.1 hi; clear hi
          refine opS_0 rfl rfl ?_
          refine OpE.y (v := .int .i64 (((k : Nat) : Int))) (y_move h7_3) ?_
          refine ⟨.inr (.p (.t .h) .nil), ?_⟩
          refine anyS_take (i := 2) rfl (by kernel_rfl) (by kernel_rfl) (by kernel_rfl) (by kernel_rfl) (Yq.of (v := .slice a1 k c1) (y_sliceH (h' := k) rfl rfl Try.underlying69 Try.sizeOf23 (by omega) (by omega) (by omega)) rfl) (.p (.t .h) .nil) ?_
          refine anyS_all (rs := [3]) (by kernel_rfl) (by simp) ?_
          intro i hi; obtain rfl := List.mem_singleton.1 hi; clear hi
          refine opS_0 rfl rfl ?_
          refine OpE.ent (fun w hs => SH.nil0 (sz := 4) (t := 23) w hs) ?_
          refine e_appendL (enc := recV) (xs := ([] : List Rec)) (ns := ((isortTo sq l i).take k : List Rec)) (zs := ((isortTo sq l i).take k)) (bytes := 32) recV_len recV_one Try.underlying69 (i := Try.t23) rfl rfl rfl rfl rfl (by decide) rfl rfl (by first | rfl | omega) (by rw [List.length_take]; omega) .h (rdsT recV_len k (oslR (.t (.t .h)))) (List.nil_append _) (by rw [List.length_take]; omega) (by rw [List.length_take]; omega) ?_
          intro a_116 c_117
          refine ⟨.inl (by simp), ?_⟩
          refine anyS_all (rs := [9]) (by kernel_rfl) (by simp) ?_
          intro i hi; obtain rfl := List.mem_singleton.1 hi; clear hi
          refine opS_0 rfl rfl ?_
          refine e_appendL (enc := recV) (xs := (((isortTo sq l i).take k) : List Rec)) (ns := ([(l.getD i default)] : List Rec)) (zs := ((isortTo sq l i).take k ++ [(l.getD i default)])) (bytes := 32) recV_len recV_one Try.underlying69 (i := Try.t23) rfl rfl rfl rfl rfl (by decide) rfl rfl (by first | rfl | omega) (by first | rfl | omega) .h (fun w hs => celR (.t .h) w hs) rfl (by rw [List.length_append, List.length_take]; simp only [List.length_cons, List.length_nil]; omega) (by rw [List.length_append, List.length_take]; simp only [List.length_cons, List.length_nil]; omega) ?_
          intro a_118 c_119
          refine ⟨.inl (by simp), ?_⟩
          refine anyS_all (rs := [13]) (by kernel_rfl) (by simp) ?_
          intro i hi; obtain rfl := List.mem_singleton.1 hi; clear hi
          refine opS_0 rfl rfl ?_
          refine e_appendL (enc := recV) (xs := (((isortTo sq l i).take k ++ [(l.getD i default)]) : List Rec)) (ns := ((isortTo sq l i).drop k : List Rec)) (zs := (isortTo sq l (i + 1))) (bytes := 32) recV_len recV_one Try.underlying69 (i := Try.t23) rfl rfl rfl rfl rfl (by decide) rfl rfl (by first | rfl | omega) (by rw [List.length_drop]) .h (rdsD recV_len k (by omega) (oslR (.t (.t .h)))) (isortTo_next (by assumption) (by first | exact .inl (by omega) | exact .inr (by assumption))) (by rw [isortTo_len]; omega) (by rw [isortTo_len]; omega) ?_
          intro a_120 c_121
          refine ⟨.inl (by simp), ?_⟩
          refine anyS_takeF (i := 14) rfl (by kernel_rfl) (by kernel_rfl) (by kernel_rfl) (by kernel_rfl) (Yq.of (v := .slice a_120 ((isortTo sq l (i + 1)).length) c_121) (y_assign rfl) rfl) ?_
          refine anyS_done (by kernel_rfl) ?_
          refine blockS_n ?_
          refine thenS_n ?_
          refine wpS_region ?_
          refine s_y (v := .int .i64 (((i : Nat) : Int))) (y_move h6_3) rfl ?_
          refine s_y (v := .int .i64 ((((i + 1) : Nat) : Int))) (y_add (a := ((i : Nat) : Int)) (b := 1) (c := (((i + 1) : Nat) : Int)) rfl rfl (wI (by omega) (by omega) (by omega))) rfl ?_
          refine s_y (v := .int .i64 ((((i + 1) : Nat) : Int))) (y_assign rfl) rfl ?_
          refine wpL_nil ?_
          refine thenS_n ?_
          exact ⟨_, by omega, ⟨(i + 1), a_120, c_121, rfl, by omega, rfl, h0_3, h1_3, rfl, rfl, .p .h .nil⟩⟩
        · -- number 1 first
          refine opS_0 rfl rfl ?_
          refine OpE.y (v := .int .i64 (((k : Nat) : Int))) (y_move h7_3) ?_
          refine ⟨.inr (.p (.t .h) .nil), ?_⟩
          refine anyS_all (rs := [0]) (by kernel_rfl) (by simp) ?_
          intro i hi; obtain rfl := List.mem_singleton.1 hi; clear hi
          refine opS_0 rfl rfl ?_
          refine OpE.y (v := .slice a1 ((isortTo sq l i).length) c1) (y_move h5_3) ?_
          refine ⟨.inr (.p (.t .h) .nil), ?_⟩
          refine anyS_take (i := 2) rfl (by kernel_rfl) (by kernel_rfl) (by kernel_rfl) (by kernel_rfl) (Yq.of (v := .slice a1 k c1) (y_sliceH (h' := k) rfl rfl Try.underlying69 Try.sizeOf23 (by omega) (by omega) (by omega)) rfl) (.p (.t .h) .nil) ?_
          refine anyS_all (rs := [3]) (by kernel_rfl) (by simp) ?_
          intro i hi; obtain rfl := List.mem_singleton.1 hi; clear hi
          refine opS_0 rfl rfl ?_
          refine OpE.ent (fun w hs => SH.nil0 (sz := 4) (t := 23) w hs) ?_
          refine e_appendL (enc := recV) (xs := ([] : List Rec)) (ns := ((isortTo sq l i).take k : List Rec)) (zs := ((isortTo sq l i).take k)) (bytes := 32) recV_len recV_one Try.underlying69 (i := Try.t23) rfl rfl rfl rfl rfl (by decide) rfl rfl (by first | rfl | omega) (by rw [List.length_take]; omega) .h (rdsT recV_len k (oslR (.t (.t .h)))) (List.nil_append _) (by rw [List.length_take]; omega) (by rw [List.length_take]; omega) ?_
          intro a_122 c_123
          refine ⟨.inl (by simp), ?_⟩
          refine anyS_all (rs := [9]) (by kernel_rfl) (by simp) ?_
          intro i hi; obtain rfl := List.mem_singleton.1 hi; clear hi
          refine opS_0 rfl rfl ?_
          refine e_appendL (enc := recV) (xs := (((isortTo sq l i).take k) : List Rec)) (ns := ([(l.getD i default)] : List Rec)) (zs := ((isortTo sq l i).take k ++ [(l.getD i default)])) (bytes := 32) recV_len recV_one Try.underlying69 (i := Try.t23) rfl rfl rfl rfl rfl (by decide) rfl rfl (by first | rfl | omega) (by first | rfl | omega) .h (fun w hs => celR (.t .h) w hs) rfl (by rw [List.length_append, List.length_take]; simp only [List.length_cons, List.length_nil]; omega) (by rw [List.length_append, List.length_take]; simp only [List.length_cons, List.length_nil]; omega) ?_
          intro a_124 c_125
          refine ⟨.inl (by simp), ?_⟩
          refine anyS_all (rs := [13]) (by kernel_rfl) (by simp) ?_
          intro i hi; obtain rfl := List.mem_singleton.1 hi; clear hi
          refine opS_0 rfl rfl ?_
          refine e_appendL (enc := recV) (xs := (((isortTo sq l i).take k ++ [(l.getD i default)]) : List Rec)) (ns := ((isortTo sq l i).drop k : List Rec)) (zs := (isortTo sq l (i + 1))) (bytes := 32) recV_len recV_one Try.underlying69 (i := Try.t23) rfl rfl rfl rfl rfl (by decide) rfl rfl (by first | rfl | omega) (by rw [List.length_drop]) .h (rdsD recV_len k (by omega) (oslR (.t (.t .h)))) (isortTo_next (by assumption) (by first | exact .inl (by omega) | exact .inr (by assumption))) (by rw [isortTo_len]; omega) (by rw [isortTo_len]; omega) ?_
          intro a_126 c_127
          refine ⟨.inl (by simp), ?_⟩
          refine anyS_takeF (i := 14) rfl (by kernel_rfl) (by kernel_rfl) (by kernel_rfl) (by kernel_rfl) (Yq.of (v := .slice a_126 ((isortTo sq l (i + 1)).length) c_127) (y_assign rfl) rfl) ?_
          refine anyS_done (by kernel_rfl) ?_
          refine blockS_n ?_
          refine thenS_n ?_
          refine wpS_region ?_
          refine s_y (v := .int .i64 (((i : Nat) : Int))) (y_move h6_3) rfl ?_
          refine s_y (v := .int .i64 ((((i + 1) : Nat) : Int))) (y_add (a := ((i : Nat) : Int)) (b := 1) (c := (((i + 1) : Nat) : Int)) rfl rfl (wI (by omega) (by omega) (by omega))) rfl ?_
          refine s_y (v := .int .i64 ((((i + 1) : Nat) : Int))) (y_assign rfl) rfl ?_
          refine wpL_nil ?_
          refine thenS_n ?_
          exact ⟨_, by omega, ⟨(i + 1), a_126, c_127, rfl, by omega, rfl, h0_3, h1_3, rfl, rfl, .p .h .nil⟩⟩
  · -- decide (i < n) false
    have p2 := of_decide_eq_false b2
    refine wpS_exit ?_
    refine thenS_x ?_
    refine thenS_x ?_
    refine blockS_h ?_
    refine thenS_n ?_
    refine wpS_seq ?_
    refine wpS_region ?_
    refine s_y (v := .slice a1 ((isortTo sq l i).length) c1) (y_move h5_1) rfl ?_
    refine s_y (v := .slice a1 ((isortTo sq l i).length) c1) (y_assign rfl) rfl ?_
    refine wpL_nil ?_
    refine thenS_n ?_
    refine wpS_ret ?_
    refine fin1 (M := [osl a1 c1 ((isortTo sq l i).length) 4 23 ((isortTo sq l i).flatMap recV)]) (v := .slice a1 ((isortTo sq l i).length) c1) (.inr rfl) (.p .h .nil) Try.results78 rfl ?_
    exact fun w' hs => ⟨(a1, c1), by rw [show (isort sq l) = (isortTo sq l i) from (by unfold isort; rw [show l.length = i by omega])], by rw [show (isort sq l) = (isortTo sq l i) from (by unfold isort; rw [show l.length = i by omega])]; exact hs, trivial⟩

end Go.Proofs.Ytldkjjnjdjfipaa
