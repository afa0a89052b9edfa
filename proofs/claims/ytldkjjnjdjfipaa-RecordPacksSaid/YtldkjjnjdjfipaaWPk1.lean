/- Numbers as bytes, walked. -/
import Derived.Test.YtldkjjnjdjfipaaArr
import Derived.Test.YtldkjjnjdjfipaaWRec
namespace Go.Proofs.Ytldkjjnjdjfipaa
open Go Go.RowKit
set_option linter.unusedVariables false
set_option linter.unusedSimpArgs false
set_option maxRecDepth 10000
set_option maxHeartbeats 1000000

def leAll (vs : List UInt64) : List UInt8 := vs.flatMap le8
theorem leAll_len : ∀ vs, (leAll vs).length = 8 * vs.length
  | [] => rfl
  | v :: vs => by
    have h := leAll_len vs
    unfold leAll at *
    rw [List.flatMap_cons, List.length_append, le8_len, h, List.length_cons]
    omega
theorem leAll_next (vs : List UInt64) (i : Nat) (h : i < vs.length) : leAll (vs.take i) ++ le8 (vs.getD i default) = leAll (vs.take (i + 1)) := by
  unfold leAll
  rw [List.take_succ_eq_append_getElem h, List.flatMap_append]
  simp [List.getD_eq_getElem?_getD, h]
def putTo (l : List UInt8) (v : UInt64) : Nat → List UInt8
  | 0 => l
  | i + 1 => putTo l v i ++ [lowB v i]
theorem putTo_eq (l : List UInt8) (v : UInt64) : ∀ i, putTo l v i = l ++ le8To v i
  | 0 => (List.append_nil l).symm
  | i + 1 => by rw [putTo, putTo_eq l v i, le8To_next]
/-- a record's words, and its bytes -/
def words (r : Rec) : List UInt64 := if r.dead then [1, 0, 0, 0] else [0, r.key.toUInt64, r.value.toUInt64, r.seq.toUInt64]
def packB (r : Rec) : List UInt8 := leAll (words r)
theorem words_len (r : Rec) : (words r).length = 4 := by unfold words; split <;> rfl
theorem packB_len (r : Rec) : (packB r).length = 32 := by unfold packB; rw [leAll_len, words_len]

theorem all64_c (a : Option Addr) (n c : Nat) (w : World) : Makes Try.prog 148 #[.slice a n c] w [] (X := Nat) (fun x : Nat => .func (.func 217) #[] #[.pointer (some ⟨x, 0, none⟩)]) (fun x : Nat => [cel x 175 [.slice a n c]]) (fun _ => True) := by
  refine calls_S (n := 4) (σ0 := (upd fr0 0 (.slice a n c))) (D := []) (A := []) Try.func148 rfl Try.ntmps148 rfl (a1_fr _) (SH.start w) ?_
  refine wpS_seq ?_
  refine wpS_region ?_
  refine s_e rfl ?_
  refine e_box (v := .slice a n c) (l := [.slice a n c]) rfl rfl ?_
  intro b_1
  refine s_y (v := .nilFunc) (y_assign rfl) rfl ?_
  refine wpL_nil ?_
  refine thenS_n ?_
  refine wpS_seq ?_
  refine wpS_region ?_
  refine s_y (v := .func (.func 217) #[] #[.pointer (some ⟨b_1, 0, none⟩)]) (y_makeFunc (a := #[]) (b := #[.pointer (some ⟨b_1, 0, none⟩)]) ev0 (ev1 rfl)) rfl ?_
  refine s_y (v := .func (.func 217) #[] #[.pointer (some ⟨b_1, 0, none⟩)]) (y_assign rfl) rfl ?_
  refine wpL_nil ?_
  refine thenS_n ?_
  refine wpS_ret ?_
  refine fin1 (M := [cel b_1 175 [.slice a n c]]) (v := .func (.func 217) #[] #[.pointer (some ⟨b_1, 0, none⟩)]) (.inr rfl) (.p .h .nil) Try.results148 rfl ?_
  exact fun w' hs => ⟨b_1, rfl, hs, trivial⟩

theorem all64_it (b : Nat) (a : Option Addr) (n c : Nat) (vs : List UInt64) (w : World) (hb : w.cell? ⟨b, 0, none⟩ = some (.slice a n c)) (hn : vs.length = n) (hr : Rds w a (vs.flatMap u64V)) (hbn : n ≤ 1000000) : Iter Try.prog 217 #[.pointer (some ⟨b, 0, none⟩)] (fun k => #[.int .i64 ((k : Nat) : Int), .int .u64 ((((vs.getD k default))).toNat)]) (n) (fun z => z = b ∨ 0 < vs.length ∧ z = aB a) w := by
  intro yv I E A hrd hI hA hY
  show Calls Try.prog 217 #[yv, .pointer (some ⟨b, 0, none⟩)] w _
  refine calls_S (n := 18) (σ0 := (upd (upd fr0 0 (yv)) 1 (.pointer (some ⟨b, 0, none⟩)))) (D := (A.flatMap Res.fp)) (A := A) Try.func217 rfl Try.ntmps217 rfl (a2_fr _ _) hA ?_
  refine wpS_seq ?_
  refine wpS_region ?_
  refine s_y (v := .slice a n c) (y_load1 (v := .slice a n c) rfl Try.isAgg175 (old1 hb (hrd _ (.inl rfl)))) rfl ?_
  refine s_y (v := .int .i64 (((n : Nat) : Int))) (y_len (ty' := 0) (at_ := #[]) rfl Try.underlying175) rfl ?_
  refine s_y (v := .int .i64 0) (y_move rfl) rfl ?_
  refine wpL_nil ?_
  refine thenS_n ?_
  refine wpS_block ?_
  refine wpS_loop (fun m ds σ L => ∃ i : Nat, ∃ A1 : List Res, m = n - i ∧ (i ≤ n) ∧ (I i A1) ∧ ds = [] ∧ σ 0 = yv ∧ σ 5 = .slice a n c ∧ σ 6 = .int .i64 (((n : Nat) : Int)) ∧ σ 7 = .int .i64 (((i : Nat) : Int)) ∧ Ent L (A1)) (m0 := n - 0) ⟨0, A, rfl, by omega, hI, rfl, rfl, rfl, rfl, rfl, (Ent.refl _)⟩ ?_
  rintro m ds σ L ⟨i, A1, hm_1, hf0_1, hf1_1, rfl, h0_1, h5_1, h6_1, h7_1, hE_1⟩
  refine wpS_ent hE_1 ?_; clear hE_1
  refine wpS_seq ?_
  refine wpS_region ?_
  refine s_y (v := .bool (decide (i < n))) (y_lss (a := ((i : Nat) : Int)) (b := ((n : Nat) : Int)) (c := decide (i < n)) h7_1 h6_1 (decide_eq_decide.2 (by omega))) rfl ?_
  refine wpL_nil ?_
  refine thenS_n ?_
  refine wpS_seq ?_
  refine wpS_cond (t := decide (i < n)) rfl (fun b2 => ?_) (fun b2 => ?_)
  · -- decide (i < n) true
    have p2 := of_decide_eq_true b2
    refine wpS_skip ?_
    refine thenS_n ?_
    refine wpS_seq ?_
    refine wpS_block ?_
    refine wpS_seq ?_
    refine wpS_region ?_
    refine s_y (v := .int .i64 (((i : Nat) : Int))) (y_move h7_1) rfl ?_
    refine s_y (v := .pointer (some ⟨aB a, aO a + i * 1, none⟩)) (y_idx (o := i * 1) h5_1 h7_1 Try.underlying175 Try.sizeOf24 (oldRD' hr (fun hl => hrd _ (.inr ⟨fl_pos' u64V_len hl, rfl⟩))) ((fl_len u64V_len _).trans (by first | omega | (simp only [List.length_set, List.length_take, List.length_drop]; done) | (simp only [List.length_set, List.length_take, List.length_drop]; omega))) (by decide) (by omega) (by omega) (by omega)) rfl ?_
    refine s_y (v := .int .u64 (((vs.getD i default)).toNat)) (y_load1 (v := .int .u64 (((vs.getD i default)).toNat)) rfl Try.isAgg24 (rd1 (k := i * 1) (oldRD' hr (fun hl => hrd _ (.inr ⟨fl_pos' u64V_len hl, rfl⟩))) (fl_get0 u64V_len vs i (by first | omega | (simp only [List.length_set, List.length_take, List.length_drop]; done) | (simp only [List.length_set, List.length_take, List.length_drop]; omega)) rfl))) rfl ?_
    refine s_y (v := .int .i64 (((i : Nat) : Int))) (y_assign rfl) rfl ?_
    refine s_y (v := .int .u64 (((vs.getD i default)).toNat)) (y_assign rfl) rfl ?_
    refine wpL_nil ?_
    refine thenS_n ?_
    refine wpS_seq ?_
    refine wpS_region ?_
    refine s_y (v := yv) (y_move h0_1) rfl ?_
    refine s_y (v := .int .i64 (((i : Nat) : Int))) (y_move rfl) rfl ?_
    refine s_y (v := .int .u64 (((vs.getD i default)).toNat)) (y_move rfl) rfl ?_
    refine s_e rfl ?_
    refine e_yield (own := []) (A := A1) (enc := (fun k => #[.int .i64 ((k : Nat) : Int), .int .u64 ((((vs.getD k default))).toNat)])) (k := i) hY rfl (ev2 rfl rfl) (by omega) (by assumption) ?_ ?_
    · intro A_3 hI_4
      refine s_y (v := .bool false) (y_notK (b := true) (c := false) rfl rfl) rfl ?_
      refine wpL_nil ?_
      refine thenS_n ?_
      refine wpS_cond_f rfl ?_
      refine wpS_skip ?_
      refine blockS_n ?_
      refine thenS_n ?_
      refine wpS_region ?_
      refine s_y (v := .int .i64 ((((i + 1) : Nat) : Int))) (y_add (a := ((i : Nat) : Int)) (b := 1) (c := (((i + 1) : Nat) : Int)) h7_1 rfl (wI (by omega) (by omega) (by omega))) rfl ?_
      refine s_y (v := .int .i64 ((((i + 1) : Nat) : Int))) (y_move rfl) rfl ?_
      refine wpL_nil ?_
      refine thenS_n ?_
      exact ⟨_, by omega, ⟨(i + 1), A_3, rfl, by omega, hI_4, rfl, h0_1, h5_1, h6_1, rfl, (Ent.refl _)⟩⟩
    · intro A_5 hI_6
      refine s_y (v := .bool true) (y_notK (b := false) (c := true) rfl rfl) rfl ?_
      refine wpL_nil ?_
      refine thenS_n ?_
      refine wpS_cond_t rfl ?_
      refine wpS_ret ?_
      refine blockS_r ?_
      refine thenS_r ?_
      refine thenS_r ?_
      refine blockS_r ?_
      exact fin0 (.inr rfl) ((Ent.refl _)) Try.results217 (fun w' hs => ⟨rfl, A_5, hs, .inr ⟨i, by omega, hI_6⟩⟩)
  · -- decide (i < n) false
    have p2 := of_decide_eq_false b2
    refine wpS_exit ?_
    refine thenS_x ?_
    refine thenS_x ?_
    refine blockS_h ?_
    exact fin0 (.inl rfl) ((Ent.refl _)) Try.results217 (fun w' hs => ⟨rfl, A1, hs, .inl (by rw [show n = i by omega]; assumption)⟩)

theorem all64_at (b : Nat) (a : Option Addr) (n c : Nat) (vs : List UInt64) (w : World) (hb : w.cell? ⟨b, 0, none⟩ = some (.slice a n c)) (hn : vs.length = n) (hr : Rds w a (vs.flatMap u64V)) (hbn : n ≤ 1000000) :
    IterAt Try.prog 217 #[.pointer (some ⟨b, 0, none⟩)] (fun k => #[.int .i64 ((k : Nat) : Int), .int .u64 ((((vs.getD k default))).toNat)]) n (fun z => z = b ∨ 0 < vs.length ∧ z = aB a) w :=
  ⟨fun w' hs => all64_it b a n c vs w' (cell_old hb hs) hn (hr.below (SH.below hs)) hbn, by
    rintro z (rfl | ⟨hl, rfl⟩)
    · exact cell_lt hb
    · exact rdBlk hr (fl_pos u64V_len (by decide) hl)⟩

theorem putlow_c (a : Option Addr) (c : Nat) (l : List UInt8) (v : UInt64) (w : World) (hA : SH w ([osl a c l.length 1 5 (l.flatMap byteV)].flatMap Res.fp) [osl a c l.length 1 5 (l.flatMap byteV)] w) (hb : l.length ≤ 1000000) : Makes Try.prog 149 #[.slice a l.length c, .int .u64 v.toNat, .int .i64 8] w ([osl a c l.length 1 5 (l.flatMap byteV)].flatMap Res.fp) (X := Option Addr × Nat) (slV (l ++ le8 v)) (fun x => [slR byteV 1 5 (l ++ le8 v) x]) (fun _ => True) := by
  refine calls_S (n := 22) (σ0 := (upd (upd (upd fr0 0 (.slice a l.length c)) 1 (.int .u64 (v.toNat))) 2 (.int .i64 8))) (D := ([osl a c l.length 1 5 (l.flatMap byteV)].flatMap Res.fp)) (A := [osl a c l.length 1 5 (l.flatMap byteV)]) Try.func149 rfl Try.ntmps149 rfl (a3_fr _ _ _) hA ?_
  refine wpS_seq ?_
  refine wpS_region ?_
  refine s_y (v := .slice none 0 0) (y_assign rfl) rfl ?_
  refine wpL_nil ?_
  refine thenS_n ?_
  refine wpS_seq ?_
  refine wpS_seq ?_
  refine wpS_region ?_
  refine s_y (v := .int .i64 8) (y_move rfl) rfl ?_
  refine s_y (v := .int .i64 0) (y_move rfl) rfl ?_
  refine wpL_nil ?_
  refine thenS_n ?_
  refine wpS_block ?_
  refine wpS_loop (fun m ds σ L => ∃ i : Nat, ∃ a1 : Option Addr, ∃ c1 : Nat, m = 8 - i ∧ (i ≤ 8) ∧ ds = [] ∧ σ 0 = .slice a1 ((putTo l v i).length) c1 ∧ σ 1 = .int .u64 (v.toNat) ∧ σ 8 = .int .i64 8 ∧ σ 9 = .int .i64 (((i : Nat) : Int)) ∧ Ent L [osl a1 c1 ((putTo l v i).length) 1 5 ((putTo l v i).flatMap byteV)]) (m0 := 8 - 0) ⟨0, a, c, rfl, by omega, rfl, rfl, rfl, rfl, rfl, .p .h .nil⟩ ?_
  rintro m ds σ L ⟨i, a1, c1, hm_1, hf0_1, rfl, h0_1, h1_1, h8_1, h9_1, hE_1⟩
  refine wpS_ent hE_1 ?_; clear hE_1
  refine wpS_seq ?_
  refine wpS_region ?_
  refine s_y (v := .bool (decide ((i : Nat) < 8))) (y_lss (a := ((i : Nat) : Int)) (b := 8) (c := decide ((i : Nat) < 8)) h9_1 h8_1 (decide_eq_decide.2 (by omega))) rfl ?_
  refine wpL_nil ?_
  refine thenS_n ?_
  refine wpS_seq ?_
  refine wpS_cond (t := decide ((i : Nat) < 8)) rfl (fun b2 => ?_) (fun b2 => ?_)
  · -- decide ((i : Nat) < 8) true
    have p2 := of_decide_eq_true b2
    refine wpS_skip ?_
    refine thenS_n ?_
    refine wpS_seq ?_
    refine wpS_block ?_
    refine wpS_seq ?_
    refine wpS_region ?_
    refine s_y (v := .int .i64 (((i : Nat) : Int))) (y_move h9_1) rfl ?_
    refine s_y (v := .int .i64 (((i : Nat) : Int))) (y_assign rfl) rfl ?_
    refine wpL_nil ?_
    refine thenS_n ?_
    refine wpS_region ?_
    refine s_y (v := .slice a1 ((putTo l v i).length) c1) (y_move h0_1) rfl ?_
    refine s_y (v := .int .u64 (v.toNat)) (y_move h1_1) rfl ?_
    refine s_y (v := .int .i64 (((i : Nat) : Int))) (y_move rfl) rfl ?_
    refine s_y (v := .int .i64 ((((8 * i) : Nat) : Int))) (y_mul (a := 8) (b := ((i : Nat) : Int)) (c := (((8 * i) : Nat) : Int)) rfl rfl (wI (by omega) (by omega) (by omega))) rfl ?_
    refine s_y (v := .int .u64 ((((v.toNat / 2 ^ (8 * i)) : Nat) : Int))) (y_shr (a := v.toNat) (b := (((8 * i) : Nat) : Int)) (c := (((v.toNat / 2 ^ (8 * i)) : Nat) : Int)) rfl rfl (by omega) (zs_shr (by decide) (by omega) (by omega) (by omega))) rfl ?_
    refine s_y (v := .int .u8 ((lowB v i).toNat)) (y_convI (a := (((v.toNat / 2 ^ (8 * i)) : Nat) : Int)) (c := (lowB v i).toNat) rfl Try.underlying24 Try.underlying5 (lowB_wrap v i)) rfl ?_
    refine s_e rfl ?_
    refine e_bsliceL (e := 5) (m := [(0, .int .u8 ((lowB v i).toNat))]) (l := [.int .u8 ((lowB v i).toNat)]) (evc rfl evn) (fun w => by kernel_rfl) ?_
    intro b_3
    refine s_e rfl ?_
    refine e_appendL (enc := byteV) (xs := ((putTo l v i) : List UInt8)) (ns := ([(lowB v i)] : List UInt8)) (zs := (putTo l v (i + 1))) (bytes := 1) byteV_len byteV_one Try.underlying61 (i := Try.t5) rfl rfl rfl rfl rfl (by decide) rfl rfl (by first | rfl | omega) (by first | rfl | omega) (.t .h) (fun w hs => celR .h w hs) rfl (by rw [putTo_eq, List.length_append, le8To_len]; omega) (by rw [putTo_eq, List.length_append, le8To_len]; omega) ?_
    intro a_4 c_5
    refine s_y (v := .slice a_4 ((putTo l v (i + 1)).length) c_5) (y_assign rfl) rfl ?_
    refine wpL_nil ?_
    refine blockS_n ?_
    refine thenS_n ?_
    refine wpS_region ?_
    refine s_y (v := .int .i64 ((((i + 1) : Nat) : Int))) (y_add (a := ((i : Nat) : Int)) (b := 1) (c := (((i + 1) : Nat) : Int)) h9_1 rfl (wI (by omega) (by omega) (by omega))) rfl ?_
    refine s_y (v := .int .i64 ((((i + 1) : Nat) : Int))) (y_move rfl) rfl ?_
    refine wpL_nil ?_
    refine thenS_n ?_
    exact ⟨_, by omega, ⟨(i + 1), a_4, c_5, rfl, by omega, rfl, rfl, h1_1, h8_1, rfl, .p .h .nil⟩⟩
  · -- decide ((i : Nat) < 8) false
    have p2 := of_decide_eq_false b2
    refine wpS_exit ?_
    refine thenS_x ?_
    refine thenS_x ?_
    refine blockS_h ?_
    refine thenS_n ?_
    refine wpS_seq ?_
    refine wpS_region ?_
    refine s_y (v := .slice a1 ((putTo l v i).length) c1) (y_move h0_1) rfl ?_
    refine s_y (v := .slice a1 ((putTo l v i).length) c1) (y_assign rfl) rfl ?_
    refine wpL_nil ?_
    refine thenS_n ?_
    refine wpS_ret ?_
    refine fin1 (M := [osl a1 c1 ((putTo l v i).length) 1 5 ((putTo l v i).flatMap byteV)]) (v := .slice a1 ((putTo l v i).length) c1) (.inr rfl) (.p .h .nil) Try.results149 rfl ?_
    exact fun w' hs => ⟨(a1, c1), by rw [show i = 8 by omega, putTo_eq]; rfl, by rw [show i = 8 by omega, putTo_eq] at hs; exact hs, trivial⟩

theorem eight_c (v : UInt64) (w : World) : MakesS Try.prog 221 #[.int .u64 v.toNat] w [] byteV 1 5 (le8 v) := by
  refine calls_S (n := 19) (σ0 := (upd fr0 0 (.int .u64 (v.toNat)))) (D := []) (A := []) Try.func221 rfl Try.ntmps221 rfl (a1_fr _) (SH.start w) ?_
  refine wpS_seq ?_
  refine wpS_region ?_
  refine s_y (v := .slice none 0 0) (y_assign rfl) rfl ?_
  refine wpL_nil ?_
  refine thenS_n ?_
  refine wpS_seq ?_
  refine wpS_region ?_
  refine s_y (v := .slice none 0 0) (y_assign rfl) rfl ?_
  refine wpL_nil ?_
  refine thenS_n ?_
  refine wpS_seq ?_
  refine wpS_seq ?_
  refine wpS_region ?_
  refine s_y (v := .int .i64 0) (y_assign rfl) rfl ?_
  refine wpL_nil ?_
  refine thenS_n ?_
  refine wpS_block ?_
  refine wpS_nil0 1 5 ?_
  refine wpS_loop (fun m ds σ L => ∃ i : Nat, ∃ a1 : Option Addr, ∃ c1 : Nat, m = 8 - i ∧ (i ≤ 8) ∧ ds = [] ∧ σ 0 = .int .u64 (v.toNat) ∧ σ 3 = .slice a1 ((le8To v i).length) c1 ∧ σ 4 = .int .i64 (((i : Nat) : Int)) ∧ Ent L [osl a1 c1 ((le8To v i).length) 1 5 ((le8To v i).flatMap byteV)]) (m0 := 8 - 0) ⟨0, none, 0, rfl, by omega, rfl, rfl, rfl, rfl, .p .h .nil⟩ ?_
  rintro m ds σ L ⟨i, a1, c1, hm_1, hf0_1, rfl, h0_1, h3_1, h4_1, hE_1⟩
  refine wpS_ent hE_1 ?_; clear hE_1
  refine wpS_seq ?_
  refine wpS_seq ?_
  refine wpS_region ?_
  refine s_y (v := .int .i64 (((i : Nat) : Int))) (y_move h4_1) rfl ?_
  refine s_y (v := .bool (decide ((i : Nat) < 8))) (y_lss (a := ((i : Nat) : Int)) (b := 8) (c := decide ((i : Nat) < 8)) rfl rfl (decide_eq_decide.2 (by omega))) rfl ?_
  refine wpL_nil ?_
  refine thenS_n ?_
  refine wpS_cond (t := decide ((i : Nat) < 8)) rfl (fun b2 => ?_) (fun b2 => ?_)
  · -- decide ((i : Nat) < 8) true
    have p2 := of_decide_eq_true b2
    refine wpS_skip ?_
    refine thenS_n ?_
    refine wpS_seq ?_
    refine wpS_block ?_
    refine wpS_region ?_
    refine s_y (v := .slice a1 ((le8To v i).length) c1) (y_move h3_1) rfl ?_
    refine s_y (v := .int .u64 (v.toNat)) (y_move h0_1) rfl ?_
    refine s_y (v := .int .i64 (((i : Nat) : Int))) (y_move h4_1) rfl ?_
    refine s_y (v := .int .i64 ((((8 * i) : Nat) : Int))) (y_mul (a := 8) (b := ((i : Nat) : Int)) (c := (((8 * i) : Nat) : Int)) rfl rfl (wI (by omega) (by omega) (by omega))) rfl ?_
    refine s_y (v := .int .u64 ((((8 * i) : Nat) : Int))) (y_convI (a := (((8 * i) : Nat) : Int)) (c := (((8 * i) : Nat) : Int)) rfl Try.underlying3 Try.underlying46 (wU rfl (by omega) (by omega))) rfl ?_
    refine s_y (v := .int .u64 ((((v.toNat / 2 ^ (8 * i)) : Nat) : Int))) (y_shr (a := v.toNat) (b := (((8 * i) : Nat) : Int)) (c := (((v.toNat / 2 ^ (8 * i)) : Nat) : Int)) rfl rfl (by omega) (zs_shr (by decide) (by omega) (by omega) (by omega))) rfl ?_
    refine s_y (v := .int .u8 ((lowB v i).toNat)) (y_convI (a := (((v.toNat / 2 ^ (8 * i)) : Nat) : Int)) (c := (lowB v i).toNat) rfl Try.underlying24 Try.underlying5 (lowB_wrap v i)) rfl ?_
    refine s_e rfl ?_
    refine e_bsliceL (e := 5) (m := [(0, .int .u8 ((lowB v i).toNat))]) (l := [.int .u8 ((lowB v i).toNat)]) (evc rfl evn) (fun w => by kernel_rfl) ?_
    intro b_3
    refine s_e rfl ?_
    refine e_appendL (enc := byteV) (xs := ((le8To v i) : List UInt8)) (ns := ([(lowB v i)] : List UInt8)) (zs := (le8To v (i + 1))) (bytes := 1) byteV_len byteV_one Try.underlying61 (i := Try.t5) rfl rfl rfl rfl rfl (by decide) rfl rfl (by first | rfl | omega) (by first | rfl | omega) (.t .h) (fun w hs => celR .h w hs) (le8To_next0 v i) (by rw [le8To_len]; omega) (by rw [le8To_len]; omega) ?_
    intro a_4 c_5
    refine s_y (v := .slice a_4 ((le8To v (i + 1)).length) c_5) (y_assign rfl) rfl ?_
    refine wpL_nil ?_
    refine blockS_n ?_
    refine thenS_n ?_
    refine wpS_region ?_
    refine s_y (v := .int .i64 (((i : Nat) : Int))) (y_move h4_1) rfl ?_
    refine s_y (v := .int .i64 ((((i + 1) : Nat) : Int))) (y_add (a := ((i : Nat) : Int)) (b := 1) (c := (((i + 1) : Nat) : Int)) rfl rfl (wI (by omega) (by omega) (by omega))) rfl ?_
    refine s_y (v := .int .i64 ((((i + 1) : Nat) : Int))) (y_assign rfl) rfl ?_
    refine wpL_nil ?_
    refine thenS_n ?_
    exact ⟨_, by omega, ⟨(i + 1), a_4, c_5, rfl, by omega, rfl, h0_1, rfl, rfl, .p .h .nil⟩⟩
  · -- decide ((i : Nat) < 8) false
    have p2 := of_decide_eq_false b2
    refine wpS_exit ?_
    refine thenS_x ?_
    refine thenS_x ?_
    refine blockS_h ?_
    refine thenS_n ?_
    refine wpS_seq ?_
    refine wpS_region ?_
    refine s_y (v := .slice a1 ((le8To v i).length) c1) (y_move h3_1) rfl ?_
    refine s_y (v := .slice a1 ((le8To v i).length) c1) (y_assign rfl) rfl ?_
    refine wpL_nil ?_
    refine thenS_n ?_
    refine wpS_ret ?_
    refine fin1 (M := [osl a1 c1 ((le8To v i).length) 1 5 ((le8To v i).flatMap byteV)]) (v := .slice a1 ((le8To v i).length) c1) (.inr rfl) (.p .h .nil) Try.results221 rfl ?_
    exact fun w' hs => ⟨(a1, c1), by rw [show (le8 v) = (le8To v i) from (by rw [show i = 8 by omega]; rfl)], by rw [show (le8 v) = (le8To v i) from (by rw [show i = 8 by omega]; rfl)]; exact hs, trivial⟩

theorem eights_c (a : Option Addr) (n c : Nat) (vs : List UInt64) (w : World) (hn : vs.length = n) (hr : Rds w a (vs.flatMap u64V)) (hb : n ≤ 1000) : MakesS Try.prog 165 #[.slice a n c] w [] byteV 1 5 (leAll vs) := by
  refine calls_S (n := 19) (σ0 := (upd fr0 0 (.slice a n c))) (D := []) (A := []) Try.func165 rfl Try.ntmps165 rfl (a1_fr _) (SH.start w) ?_
  refine wpS_seq ?_
  refine wpS_region ?_
  refine s_y (v := .slice none 0 0) (y_assign rfl) rfl ?_
  refine wpL_nil ?_
  refine thenS_n ?_
  refine wpS_seq ?_
  refine wpS_region ?_
  refine s_y (v := .slice none 0 0) (y_assign rfl) rfl ?_
  refine wpL_nil ?_
  refine thenS_n ?_
  refine wpS_seq ?_
  refine wpS_seq ?_
  refine wpS_region ?_
  refine s_y (v := .int .i64 0) (y_assign rfl) rfl ?_
  refine wpL_nil ?_
  refine thenS_n ?_
  refine wpS_block ?_
  refine wpS_nil0 1 5 ?_
  refine wpS_loop (fun m ds σ L => ∃ i : Nat, ∃ a1 : Option Addr, ∃ c1 : Nat, m = n - i ∧ (i ≤ n) ∧ ds = [] ∧ σ 0 = .slice a n c ∧ σ 3 = .slice a1 ((leAll (vs.take i)).length) c1 ∧ σ 4 = .int .i64 (((i : Nat) : Int)) ∧ Ent L [osl a1 c1 ((leAll (vs.take i)).length) 1 5 ((leAll (vs.take i)).flatMap byteV)]) (m0 := n - 0) ⟨0, none, 0, rfl, by omega, rfl, rfl, rfl, rfl, .p .h .nil⟩ ?_
  rintro m ds σ L ⟨i, a1, c1, hm_1, hf0_1, rfl, h0_1, h3_1, h4_1, hE_1⟩
  refine wpS_ent hE_1 ?_; clear hE_1
  refine wpS_seq ?_
  refine wpS_seq ?_
  refine wpS_region ?_
  refine s_y (v := .int .i64 (((i : Nat) : Int))) (y_move h4_1) rfl ?_
  refine s_y (v := .slice a n c) (y_move h0_1) rfl ?_
  refine s_y (v := .int .i64 (((n : Nat) : Int))) (y_len (ty' := 0) (at_ := #[]) rfl Try.underlying175) rfl ?_
  refine s_y (v := .bool (decide (i < n))) (y_lss (a := ((i : Nat) : Int)) (b := ((n : Nat) : Int)) (c := decide (i < n)) rfl rfl (decide_eq_decide.2 (by omega))) rfl ?_
  refine wpL_nil ?_
  refine thenS_n ?_
  refine wpS_cond (t := decide (i < n)) rfl (fun b2 => ?_) (fun b2 => ?_)
  · -- decide (i < n) true
    have p2 := of_decide_eq_true b2
    refine wpS_skip ?_
    refine thenS_n ?_
    refine wpS_seq ?_
    refine wpS_block ?_
    refine wpS_region ?_
    refine s_y (v := .slice a1 ((leAll (vs.take i)).length) c1) (y_move h3_1) rfl ?_
    refine s_y (v := .slice a n c) (y_move h0_1) rfl ?_
    refine s_y (v := .int .i64 (((i : Nat) : Int))) (y_move h4_1) rfl ?_
    refine s_y (v := .pointer (some ⟨aB a, aO a + i * 1, none⟩)) (y_idx (o := i * 1) rfl rfl Try.underlying175 Try.sizeOf24 (oldR hr) ((fl_len u64V_len _).trans (by first | omega | (simp only [List.length_set, List.length_take, List.length_drop]; done) | (simp only [List.length_set, List.length_take, List.length_drop]; omega))) (by decide) (by omega) (by omega) (by omega)) rfl ?_
    refine s_y (v := .int .u64 (((vs.getD i default)).toNat)) (y_load1 (v := .int .u64 (((vs.getD i default)).toNat)) rfl Try.isAgg24 (rd1 (k := i * 1) (oldR hr) (fl_get0 u64V_len vs i (by first | omega | (simp only [List.length_set, List.length_take, List.length_drop]; done) | (simp only [List.length_set, List.length_take, List.length_drop]; omega)) rfl))) rfl ?_
    refine s_e rfl ?_
    refine e_call (f := 221) (args := #[.int .u64 (((vs.getD i default)).toNat)]) (X := Option Addr × Nat) (A := []) (M := [osl a1 c1 ((leAll (vs.take i)).length) 1 5 ((leAll (vs.take i)).flatMap byteV)]) (V := slV (le8 (vs.getD i default))) (A' := fun x => [slR byteV 1 5 (le8 (vs.getD i default)) x]) (C := fun x => (le8 (vs.getD i default)).length ≤ x.2) Try.call221 (ev1 rfl) (.p .h .nil) (fun w hs => (eight_c (vs.getD i default) w).cap) ?_
    rintro ⟨a_3, c_4⟩ hc5; replace hc5 : (le8 (vs.getD i default)).length ≤ c_4 := hc5
    refine s_e rfl ?_
    refine e_appendL (enc := byteV) (xs := ((leAll (vs.take i)) : List UInt8)) (ns := ((le8 (vs.getD i default)) : List UInt8)) (zs := (leAll (vs.take (i + 1)))) (bytes := 1) byteV_len byteV_one Try.underlying61 (i := Try.t5) rfl rfl rfl rfl rfl (by decide) rfl rfl (by first | rfl | omega) (by first | rfl | omega) (.t .h) (oslR .h) (leAll_next vs i (by omega)) (by rw [leAll_len, List.length_take]; omega) (by rw [leAll_len, List.length_take]; omega) ?_
    intro a_7 c_8
    refine s_y (v := .slice a_7 ((leAll (vs.take (i + 1))).length) c_8) (y_assign rfl) rfl ?_
    refine wpL_nil ?_
    refine blockS_n ?_
    refine thenS_n ?_
    refine wpS_region ?_
    refine s_y (v := .int .i64 (((i : Nat) : Int))) (y_move h4_1) rfl ?_
    refine s_y (v := .int .i64 ((((i + 1) : Nat) : Int))) (y_add (a := ((i : Nat) : Int)) (b := 1) (c := (((i + 1) : Nat) : Int)) rfl rfl (wI (by omega) (by omega) (by omega))) rfl ?_
    refine s_y (v := .int .i64 ((((i + 1) : Nat) : Int))) (y_assign rfl) rfl ?_
    refine wpL_nil ?_
    refine thenS_n ?_
    exact ⟨_, by omega, ⟨(i + 1), a_7, c_8, rfl, by omega, rfl, h0_1, rfl, rfl, .p .h .nil⟩⟩
  · -- decide (i < n) false
    have p2 := of_decide_eq_false b2
    refine wpS_exit ?_
    refine thenS_x ?_
    refine thenS_x ?_
    refine blockS_h ?_
    refine thenS_n ?_
    refine wpS_seq ?_
    refine wpS_region ?_
    refine s_y (v := .slice a1 ((leAll (vs.take i)).length) c1) (y_move h3_1) rfl ?_
    refine s_y (v := .slice a1 ((leAll (vs.take i)).length) c1) (y_assign rfl) rfl ?_
    refine wpL_nil ?_
    refine thenS_n ?_
    refine wpS_ret ?_
    refine fin1 (M := [osl a1 c1 ((leAll (vs.take i)).length) 1 5 ((leAll (vs.take i)).flatMap byteV)]) (v := .slice a1 ((leAll (vs.take i)).length) c1) (.inr rfl) (.p .h .nil) Try.results165 rfl ?_
    exact fun w' hs => ⟨(a1, c1), by rw [show (leAll vs) = (leAll (vs.take i)) from (by rw [List.take_of_length_le (by omega)])], by rw [show (leAll vs) = (leAll (vs.take i)) from (by rw [List.take_of_length_le (by omega)])]; exact hs, trivial⟩

end Go.Proofs.Ytldkjjnjdjfipaa
