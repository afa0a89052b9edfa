/- Numbers out of bytes, walked. -/
import Derived.Test.YtldkjjnjdjfipaaWPk2
namespace Go.Proofs.Ytldkjjnjdjfipaa
open Go Go.RowKit
set_option linter.unusedVariables false
set_option linter.unusedSimpArgs false
set_option maxRecDepth 10000
set_option maxHeartbeats 1000000

theorem yu_conv (b : UInt8) : IntKind.u64.wrap ((b.toNat : Nat) : Int) = ((b.toNat : Nat) : Int) := by have := b.toNat_lt; exact wU rfl (by omega) (by omega)
theorem shl_lt {b : UInt8} {i : Nat} (hi : i < 8) : b.toNat * 2 ^ (8 * i) < 18446744073709551616 := by
  have h1 := b.toNat_lt
  have h2 : (2 : Nat) ^ (8 * i) ≤ 2 ^ 56 := Nat.pow_le_pow_right (by decide) (by omega)
  have h3 := Nat.mul_le_mul (show b.toNat ≤ 255 by omega) h2
  omega
theorem valN_take_lt {l : List UInt8} (hl : l.length = 8) (i : Nat) : valN (l.take i) < 18446744073709551616 := by
  have h1 := valN_lt (l.take i)
  have h2 : 256 ^ (l.take i).length ≤ 256 ^ 8 := Nat.pow_le_pow_right (by decide) (by rw [List.length_take]; omega)
  omega
theorem low_or {l : List UInt8} {i : Nat} (hl : l.length = 8) (hi : i < 8) : IntKind.u64.wrap ((BitVec.ofInt IntKind.u64.bits ((valN (l.take i) : Nat) : Int) ||| BitVec.ofInt IntKind.u64.bits (((l.getD i default).toNat * 2 ^ (8 * i) : Nat) : Int)).toNat : Int) = ((valN (l.take (i + 1)) : Nat) : Int) := by
  have e : l.take (i + 1) = l.take i ++ [l.getD i default] := by
    rw [List.take_succ_eq_append_getElem (by omega)]; simp [List.getD_eq_getElem?_getD, (by omega : i < l.length)]
  have hlt : valN (l.take i) < 2 ^ (8 * i) := by
    have := valN_lt (l.take i)
    rwa [List.length_take, Nat.min_eq_left (by omega), pow256] at this
  refine u64_or ?_ (valN_take_lt hl _) (shl_lt hi) (valN_take_lt hl _)
  rw [or_add hlt, e, valN_snoc, List.length_take, Nat.min_eq_left (by omega), pow256]
theorem valN_drop_lt {l : List UInt8} (hl : l.length = 8) (i : Nat) : valN (l.drop i) < 256 ^ (8 - i) := by
  have h1 := valN_lt (l.drop i)
  rwa [List.length_drop, hl] at h1
theorem num_lt {l : List UInt8} {i : Nat} (hl : l.length = 8) (hi : i < 8) : valN (l.drop (i + 1)) * 2 ^ 8 < 18446744073709551616 := by
  have h1 := valN_drop_lt hl (i + 1)
  have h2 : 256 ^ (8 - (i + 1)) ≤ 256 ^ 7 := Nat.pow_le_pow_right (by decide) (by omega)
  omega
theorem num_or {l : List UInt8} {i : Nat} (hl : l.length = 8) (hi : i < 8) : IntKind.u64.wrap ((BitVec.ofInt IntKind.u64.bits ((valN (l.drop (i + 1)) * 2 ^ 8 : Nat) : Int) ||| BitVec.ofInt IntKind.u64.bits (((l.getD i default).toNat : Nat) : Int)).toNat : Int) = ((valN (l.drop i) : Nat) : Int) := by
  have e : l.drop i = l.getD i default :: l.drop (i + 1) := by
    rw [List.drop_eq_getElem_cons (by omega : i < l.length), List.getD_eq_getElem?_getD, List.getElem?_eq_getElem (by omega : i < l.length)]; rfl
  have hb : (l.getD i default).toNat < 2 ^ 8 := (l.getD i default).toNat_lt
  have h0 := num_lt hl hi
  have h1 := valN_drop_lt hl i
  have h2 : 256 ^ (8 - i) ≤ 256 ^ 8 := Nat.pow_le_pow_right (by decide) (by omega)
  refine u64_or ?_ h0 (by omega) (by omega)
  rw [Nat.or_comm, or_add hb, e, valN]
  omega
theorem num_lt' {l : List UInt8} {i : Nat} (hl : l.length = 8) (h1 : 1 ≤ i) (hi : i ≤ 8) : valN (l.drop i) * 2 ^ 8 < 18446744073709551616 := by
  have := num_lt hl (i := i - 1) (by omega)
  rwa [show i - 1 + 1 = i by omega] at this
theorem num_or' {l : List UInt8} {i : Nat} (hl : l.length = 8) (h1 : 1 ≤ i) (hi : i ≤ 8) : IntKind.u64.wrap ((BitVec.ofInt IntKind.u64.bits ((valN (l.drop i) * 2 ^ 8 : Nat) : Int) ||| BitVec.ofInt IntKind.u64.bits (((l.getD ((i : Int) - 1).toNat default).toNat : Nat) : Int)).toNat : Int) = ((valN (l.drop (i - 1)) : Nat) : Int) := by
  have := num_or hl (i := i - 1) (by omega)
  rw [show i - 1 + 1 = i by omega] at this
  rw [show ((i : Int) - 1).toNat = i - 1 by omega]
  exact this

theorem chunkb_c (a : Option Addr) (n c z : Nat) (w : World) (hz : 1 ≤ z) (hz2 : z ≤ 1000000) : Makes Try.prog 162 #[.slice a n c, .int .i64 (((z : Nat) : Int))] w [] (X := Nat × Nat) (fun x : Nat × Nat => .func (.func 220) #[] #[.pointer (some ⟨x.1, 0, none⟩), .pointer (some ⟨x.2, 0, none⟩)]) (fun x : Nat × Nat => [cel x.1 61 [.slice a n c], cel x.2 3 [.int .i64 (((z : Nat) : Int))]]) (fun _ => True) := by
  refine calls_S (n := 9) (σ0 := (upd (upd fr0 0 (.slice a n c)) 1 (.int .i64 (((z : Nat) : Int))))) (D := []) (A := []) Try.func162 rfl Try.ntmps162 rfl (a2_fr _ _) (SH.start w) ?_
  refine wpS_seq ?_
  refine wpS_region ?_
  refine s_e rfl ?_
  refine e_box (v := .slice a n c) (l := [.slice a n c]) rfl rfl ?_
  intro b_1
  refine s_e rfl ?_
  refine e_box (v := .int .i64 (((z : Nat) : Int))) (l := [.int .i64 (((z : Nat) : Int))]) rfl rfl ?_
  intro b_2
  refine s_y (v := .nilFunc) (y_assign rfl) rfl ?_
  refine wpL_nil ?_
  refine thenS_n ?_
  refine wpS_seq ?_
  refine wpS_seq ?_
  refine wpS_region ?_
  refine s_y (v := .int .i64 (((z : Nat) : Int))) (y_load1 rfl Try.isAgg3 (own1 .h rfl)) rfl ?_
  refine s_y (v := .bool (decide ((z : Nat) < 1))) (y_lss (a := ((z : Nat) : Int)) (b := 1) (c := decide ((z : Nat) < 1)) rfl rfl (decide_eq_decide.2 (by omega))) rfl ?_
  refine wpL_nil ?_
  refine thenS_n ?_
  refine wpS_cond_F (t := decide ((z : Nat) < 1)) rfl (decide_eq_false (by omega)) ?_
  refine wpS_skip ?_
  refine thenS_n ?_
  refine wpS_seq ?_
  refine wpS_region ?_
  refine s_y (v := .func (.func 220) #[] #[.pointer (some ⟨b_1, 0, none⟩), .pointer (some ⟨b_2, 0, none⟩)]) (y_makeFunc (a := #[]) (b := #[.pointer (some ⟨b_1, 0, none⟩), .pointer (some ⟨b_2, 0, none⟩)]) ev0 (ev2 rfl rfl)) rfl ?_
  refine s_y (v := .func (.func 220) #[] #[.pointer (some ⟨b_1, 0, none⟩), .pointer (some ⟨b_2, 0, none⟩)]) (y_assign rfl) rfl ?_
  refine wpL_nil ?_
  refine thenS_n ?_
  refine wpS_ret ?_
  refine fin1 (M := [cel b_1 61 [.slice a n c], cel b_2 3 [.int .i64 (((z : Nat) : Int))]]) (v := .func (.func 220) #[] #[.pointer (some ⟨b_1, 0, none⟩), .pointer (some ⟨b_2, 0, none⟩)]) (.inr rfl) (.p (.t .h) (.p .h .nil)) Try.results162 rfl ?_
  exact fun w' hs => ⟨(b_1, b_2), rfl, hs, trivial⟩

theorem chunkb_it (b1 b2 : Nat) (a : Option Addr) (n c : Nat) (vs : List UInt8) (z m : Nat) (w : World) (hb1 : w.cell? ⟨b1, 0, none⟩ = some (.slice a n c)) (hb2 : w.cell? ⟨b2, 0, none⟩ = some (.int .i64 ((z : Nat) : Int))) (hn : vs.length = n) (hr : Rds w a (vs.flatMap byteV)) (hnm : n = z * m) (hz : 1 ≤ z) (hbn : n ≤ 1000000) (hc : n ≤ c) : Iter Try.prog 220 #[.pointer (some ⟨b1, 0, none⟩), .pointer (some ⟨b2, 0, none⟩)] (fun k => #[.slice (subA a (z * k + z) (z * k) 1) z z]) (m) (fun y => y = b1 ∨ y = b2 ∨ 0 < vs.length ∧ y = aB a) w := by
  intro yv I E A hrd hI hA hY
  show Calls Try.prog 220 #[yv, .pointer (some ⟨b1, 0, none⟩), .pointer (some ⟨b2, 0, none⟩)] w _
  refine calls_S (n := 31) (σ0 := (upd (upd (upd fr0 0 (yv)) 1 (.pointer (some ⟨b1, 0, none⟩))) 2 (.pointer (some ⟨b2, 0, none⟩)))) (D := (A.flatMap Res.fp)) (A := A) Try.func220 rfl Try.ntmps220 rfl (a3_fr _ _ _) hA ?_
  refine wpS_seq ?_
  refine wpS_region ?_
  refine s_y (v := .int .i64 0) (y_assign rfl) rfl ?_
  refine wpL_nil ?_
  refine thenS_n ?_
  refine wpS_block ?_
  refine wpS_loop (fun mez ds σ L => ∃ i : Nat, ∃ A1 : List Res, mez = m - i ∧ (i ≤ m) ∧ (I i A1) ∧ ds = [] ∧ σ 0 = yv ∧ σ 1 = .pointer (some ⟨b1, 0, none⟩) ∧ σ 2 = .pointer (some ⟨b2, 0, none⟩) ∧ σ 4 = .int .i64 ((((z * i) : Nat) : Int)) ∧ Ent L (A1)) (m0 := m - 0) ⟨0, A, rfl, by omega, hI, rfl, rfl, rfl, rfl, (congrArg (Value.int .i64) (by first | rfl | (rw [Nat.mul_succ]))), (Ent.refl _)⟩ ?_
  rintro mez ds σ L ⟨i, A1, hm_1, hf0_1, hf1_1, rfl, h0_1, h1_1, h2_1, h4_1, hE_1⟩
  refine wpS_ent hE_1 ?_; clear hE_1
  refine wpS_seq ?_
  refine wpS_seq ?_
  refine wpS_region ?_
  refine s_y (v := .int .i64 ((((z * i) : Nat) : Int))) (y_move h4_1) rfl ?_
  refine s_y (v := .slice a n c) (y_load1 (v := .slice a n c) h1_1 Try.isAgg61 (old1 hb1 (hrd _ (.inl rfl)))) rfl ?_
  refine s_y (v := .int .i64 (((n : Nat) : Int))) (y_len (ty' := 0) (at_ := #[]) rfl Try.underlying61) rfl ?_
  refine s_y (v := .bool (decide ((z * i) < n))) (y_lss (a := (((z * i) : Nat) : Int)) (b := ((n : Nat) : Int)) (c := decide ((z * i) < n)) rfl rfl (decide_eq_decide.2 (by omega))) rfl ?_
  refine wpL_nil ?_
  refine thenS_n ?_
  refine wpS_cond (t := decide ((z * i) < n)) rfl (fun b2 => ?_) (fun b2 => ?_)
  · -- decide ((z * i) < n) true
    have p2 := of_decide_eq_true b2
    have him : i < m := chunk_lt (z := z) (by omega)
    have hzi := Nat.mul_le_mul_left z (show i + 1 ≤ m by omega)
    rw [Nat.mul_succ] at hzi
    refine wpS_skip ?_
    refine thenS_n ?_
    refine wpS_seq ?_
    refine wpS_block ?_
    refine wpS_seq ?_
    refine wpS_lex (by kernel_rfl) (by kernel_rfl) ?_
    refine x_y (v := .int .i64 (((z : Nat) : Int))) (y_load1 (v := .int .i64 (((z : Nat) : Int))) h2_1 Try.isAgg3 (old1 hb2 (hrd _ (.inr (.inl rfl))))) rfl ?_
    refine x_y (v := .slice a n c) (y_load1 (v := .slice a n c) h1_1 Try.isAgg61 (old1 hb1 (hrd _ (.inl rfl)))) rfl ?_
    refine x_y (v := .int .i64 ((((z * i) : Nat) : Int))) (y_move h4_1) rfl ?_
    refine x_y (v := .slice (subA a c (z * i) 1) (n - z * i) (c - z * i)) (y_sliceL (l' := z * i) rfl rfl Try.underlying61 Try.sizeOf5 (by omega) (by omega) (by omega)) rfl ?_
    refine x_y (v := .int .i64 ((((n - z * i) : Nat) : Int))) (y_len (ty' := 0) (at_ := #[]) rfl Try.underlying61) rfl ?_
    refine x_y (v := .int .i64 (((z : Nat) : Int))) (y_min (a := ((z : Nat) : Int)) (b := (((n - z * i) : Nat) : Int)) (c := ((z : Nat) : Int)) rfl rfl (by split <;> omega)) rfl ?_
    refine x_y (v := .int .i64 (((z : Nat) : Int))) (y_assign rfl) rfl ?_
    refine x_nil ?_
    refine thenS_n ?_
    refine wpS_seq ?_
    refine wpS_region ?_
    refine s_y (v := yv) (y_move h0_1) rfl ?_
    refine s_y (v := .slice a n c) (y_load1 (v := .slice a n c) h1_1 Try.isAgg61 (old1 hb1 (hrd _ (.inl rfl)))) rfl ?_
    refine s_y (v := .int .i64 ((((z * i) : Nat) : Int))) (y_move h4_1) rfl ?_
    refine s_y (v := .int .i64 ((((z * i) : Nat) : Int))) (y_move h4_1) rfl ?_
    refine s_y (v := .int .i64 (((z : Nat) : Int))) (y_move rfl) rfl ?_
    refine s_y (v := .int .i64 (((((z * i) + z) : Nat) : Int))) (y_add (a := (((z * i) : Nat) : Int)) (b := ((z : Nat) : Int)) (c := ((((z * i) + z) : Nat) : Int)) rfl rfl (wI (by omega) (by omega) (by omega))) rfl ?_
    refine s_y (v := .int .i64 ((((z * i) : Nat) : Int))) (y_move h4_1) rfl ?_
    refine s_y (v := .int .i64 (((z : Nat) : Int))) (y_move rfl) rfl ?_
    refine s_y (v := .int .i64 (((((z * i) + z) : Nat) : Int))) (y_add (a := (((z * i) : Nat) : Int)) (b := ((z : Nat) : Int)) (c := ((((z * i) + z) : Nat) : Int)) rfl rfl (wI (by omega) (by omega) (by omega))) rfl ?_
    refine s_y (v := .slice (subA a (z * i + z) (z * i) 1) (z * i + z - z * i) (z * i + z - z * i)) (y_sliceLHM (l' := z * i) (h' := z * i + z) (m' := z * i + z) rfl rfl rfl rfl Try.underlying61 Try.sizeOf5 (by omega) (by omega) (by omega) (by omega) (by omega) (by omega) (by omega)) rfl ?_
    refine s_e rfl ?_
    refine e_yield (own := []) (A := A1) (enc := (fun k => #[.slice (subA a (z * k + z) (z * k) 1) z z])) (k := i) hY rfl ((show _ = #[.slice (subA a (z * i + z) (z * i) 1) (z * i + z - z * i) (z * i + z - z * i)] from ev1 rfl).trans (congrArg (fun q => #[Value.slice (subA a (z * i + z) (z * i) 1) q q]) (Nat.add_sub_cancel_left _ _))) (by first | omega | exact chunk_lt (by omega) (by omega)) (by assumption) ?_ ?_
    · intro A_3 hI_4
      refine s_y (v := .bool false) (y_notK (b := true) (c := false) rfl rfl) rfl ?_
      refine wpL_nil ?_
      refine thenS_n ?_
      refine wpS_cond_f rfl ?_
      refine wpS_skip ?_
      refine blockS_n ?_
      refine thenS_n ?_
      refine wpS_region ?_
      refine s_y (v := .int .i64 ((((z * i) : Nat) : Int))) (y_move h4_1) rfl ?_
      refine s_y (v := .int .i64 (((z : Nat) : Int))) (y_load1 (v := .int .i64 (((z : Nat) : Int))) h2_1 Try.isAgg3 (old1 hb2 (hrd _ (.inr (.inl rfl))))) rfl ?_
      refine s_y (v := .int .i64 (((((z * i) + z) : Nat) : Int))) (y_add (a := (((z * i) : Nat) : Int)) (b := ((z : Nat) : Int)) (c := ((((z * i) + z) : Nat) : Int)) rfl rfl (wI (by omega) (by omega) (by omega))) rfl ?_
      refine s_y (v := .int .i64 (((((z * i) + z) : Nat) : Int))) (y_assign rfl) rfl ?_
      refine wpL_nil ?_
      refine thenS_n ?_
      exact ⟨_, by omega, ⟨(i + 1), A_3, rfl, by omega, hI_4, rfl, h0_1, h1_1, h2_1, (congrArg (Value.int .i64) (by first | rfl | (rw [Nat.mul_succ]))), (Ent.refl _)⟩⟩
    · intro A_5 hI_6
      refine s_y (v := .bool true) (y_notK (b := false) (c := true) rfl rfl) rfl ?_
      refine wpL_nil ?_
      refine thenS_n ?_
      refine wpS_cond_t rfl ?_
      refine wpS_ret ?_
      refine blockS_r ?_
      refine thenS_r ?_
      refine thenS_r ?_
      refine blockS_r ?_
      exact fin0 (.inr rfl) ((Ent.refl _)) Try.results220 (fun w' hs => ⟨rfl, A_5, hs, .inr ⟨i, by omega, hI_6⟩⟩)
  · -- decide ((z * i) < n) false
    have p2 := of_decide_eq_false b2
    have him : m ≤ i := chunk_ge (z := z) (by omega) (by omega)
    refine wpS_exit ?_
    refine thenS_x ?_
    refine thenS_x ?_
    refine blockS_h ?_
    exact fin0 (.inl rfl) ((Ent.refl _)) Try.results220 (fun w' hs => ⟨rfl, A1, hs, .inl (by rw [show m = i by omega]; assumption)⟩)

theorem chunkb_at (b1 b2 : Nat) (a : Option Addr) (n c : Nat) (vs : List UInt8) (z m : Nat) (w : World) (hb1 : w.cell? ⟨b1, 0, none⟩ = some (.slice a n c)) (hb2 : w.cell? ⟨b2, 0, none⟩ = some (.int .i64 ((z : Nat) : Int))) (hn : vs.length = n) (hr : Rds w a (vs.flatMap byteV)) (hnm : n = z * m) (hz : 1 ≤ z) (hbn : n ≤ 1000000 ∧ n ≤ c) :
    IterAt Try.prog 220 #[.pointer (some ⟨b1, 0, none⟩), .pointer (some ⟨b2, 0, none⟩)] (fun k => #[.slice (subA a (z * k + z) (z * k) 1) z z]) m (fun y => y = b1 ∨ y = b2 ∨ 0 < vs.length ∧ y = aB a) w :=
  ⟨fun w' hs => chunkb_it b1 b2 a n c vs z m w' (cell_old hb1 hs) (cell_old hb2 hs) hn (hr.below (SH.below hs)) hnm hz hbn.1 hbn.2, by
    rintro y (rfl | rfl | ⟨hl, rfl⟩)
    · exact cell_lt hb1
    · exact cell_lt hb2
    · exact rdBlk hr (fl_pos byteV_len (by decide) hl)⟩

theorem low_c (a : Option Addr) (n c : Nat) (l : List UInt8) (w : World) (hn : l.length = n) (hr : Rds w a (l.flatMap byteV)) (h8 : n = 8) : Pure Try.prog 163 #[.slice a n c, .int .i64 8] w (.int .u64 (UInt64.ofNat (valN l)).toNat) := by
  refine calls_S (n := 23) (σ0 := (upd (upd fr0 0 (.slice a n c)) 1 (.int .i64 8))) (D := []) (A := []) Try.func163 rfl Try.ntmps163 rfl (a2_fr _ _) (SH.start w) ?_
  refine wpS_seq ?_
  refine wpS_region ?_
  refine s_y (v := .int .u64 0) (y_assign rfl) rfl ?_
  refine wpL_nil ?_
  refine thenS_n ?_
  refine wpS_seq ?_
  refine wpS_region ?_
  refine s_y (v := .int .u64 0) (y_assign rfl) rfl ?_
  refine wpL_nil ?_
  refine thenS_n ?_
  refine wpS_seq ?_
  refine wpS_seq ?_
  refine wpS_region ?_
  refine s_y (v := .int .i64 8) (y_move rfl) rfl ?_
  refine s_y (v := .int .i64 0) (y_move rfl) rfl ?_
  refine wpL_nil ?_
  refine thenS_n ?_
  refine wpS_block ?_
  refine wpS_loop (fun mez ds σ L => ∃ i : Nat, mez = 8 - i ∧ (i ≤ 8) ∧ ds = [] ∧ σ 0 = .slice a n c ∧ σ 5 = .int .u64 ((((valN (l.take i)) : Nat) : Int)) ∧ σ 7 = .int .i64 8 ∧ σ 8 = .int .i64 (((i : Nat) : Int)) ∧ Ent L []) (m0 := 8 - 0) ⟨0, rfl, by omega, rfl, rfl, rfl, rfl, rfl, .nil⟩ ?_
  rintro mez ds σ L ⟨i, hm_1, hf0_1, rfl, h0_1, h5_1, h7_1, h8_1, hE_1⟩
  refine wpS_ent hE_1 ?_; clear hE_1
  refine wpS_seq ?_
  refine wpS_region ?_
  refine s_y (v := .bool (decide ((i : Nat) < 8))) (y_lss (a := ((i : Nat) : Int)) (b := 8) (c := decide ((i : Nat) < 8)) h8_1 h7_1 (decide_eq_decide.2 (by omega))) rfl ?_
  refine wpL_nil ?_
  refine thenS_n ?_
  refine wpS_seq ?_
  refine wpS_cond (t := decide ((i : Nat) < 8)) rfl (fun b2 => ?_) (fun b2 => ?_)
  · -- decide ((i : Nat) < 8) true
    have p2 := of_decide_eq_true b2
    refine wpS_skip ?_
    refine thenS_n ?_
    refine wpS_seq ?_
    refine wpS_block ?_
    refine wpS_seq ?_
    refine wpS_region ?_
    refine s_y (v := .int .i64 (((i : Nat) : Int))) (y_move h8_1) rfl ?_
    refine s_y (v := .int .i64 (((i : Nat) : Int))) (y_assign rfl) rfl ?_
    refine wpL_nil ?_
    refine thenS_n ?_
    refine wpS_region ?_
    refine s_y (v := .int .u64 ((((valN (l.take i)) : Nat) : Int))) (y_move h5_1) rfl ?_
    refine s_y (v := .slice a n c) (y_move h0_1) rfl ?_
    refine s_y (v := .int .i64 (((i : Nat) : Int))) (y_move rfl) rfl ?_
    refine s_y (v := .pointer (some ⟨aB a, aO a + i * 1, none⟩)) (y_idx (o := i * 1) rfl rfl Try.underlying61 Try.sizeOf5 (oldR hr) ((fl_len byteV_len _).trans (by first | omega | (simp only [List.length_set, List.length_take, List.length_drop]; done) | (simp only [List.length_set, List.length_take, List.length_drop]; omega))) (by decide) (by omega) (by omega) (by omega)) rfl ?_
    refine s_y (v := .int .u8 ((l.getD i default).toNat)) (y_load1 (v := .int .u8 ((l.getD i default).toNat)) rfl Try.isAgg5 (rd1 (k := i * 1) (oldR hr) (fl_get0 byteV_len l i (by first | omega | (simp only [List.length_set, List.length_take, List.length_drop]; done) | (simp only [List.length_set, List.length_take, List.length_drop]; omega)) rfl))) rfl ?_
    refine s_y (v := .int .u64 (((((l.getD i default).toNat) : Nat) : Int))) (y_convI (a := (l.getD i default).toNat) (c := ((((l.getD i default).toNat) : Nat) : Int)) rfl Try.underlying5 Try.underlying24 (yu_conv _)) rfl ?_
    refine s_y (v := .int .i64 (((i : Nat) : Int))) (y_move rfl) rfl ?_
    refine s_y (v := .int .i64 ((((8 * i) : Nat) : Int))) (y_mul (a := 8) (b := ((i : Nat) : Int)) (c := (((8 * i) : Nat) : Int)) rfl rfl (wI (by omega) (by omega) (by omega))) rfl ?_
    refine s_y (v := .int .u64 (((((l.getD i default).toNat * 2 ^ (8 * i)) : Nat) : Int))) (y_shl (a := ((((l.getD i default).toNat) : Nat) : Int)) (b := (((8 * i) : Nat) : Int)) (c := ((((l.getD i default).toNat * 2 ^ (8 * i)) : Nat) : Int)) rfl rfl (by omega) (u64_shl (by omega) rfl (shl_lt (by omega)))) rfl ?_
    refine s_y (v := .int .u64 ((((valN (l.take (i + 1))) : Nat) : Int))) (y_or (a := (((valN (l.take i)) : Nat) : Int)) (b := ((((l.getD i default).toNat * 2 ^ (8 * i)) : Nat) : Int)) (c := (((valN (l.take (i + 1))) : Nat) : Int)) rfl rfl (low_or (by omega) (by omega))) rfl ?_
    refine s_y (v := .int .u64 ((((valN (l.take (i + 1))) : Nat) : Int))) (y_assign rfl) rfl ?_
    refine wpL_nil ?_
    refine blockS_n ?_
    refine thenS_n ?_
    refine wpS_region ?_
    refine s_y (v := .int .i64 ((((i + 1) : Nat) : Int))) (y_add (a := ((i : Nat) : Int)) (b := 1) (c := (((i + 1) : Nat) : Int)) h8_1 rfl (wI (by omega) (by omega) (by omega))) rfl ?_
    refine s_y (v := .int .i64 ((((i + 1) : Nat) : Int))) (y_move rfl) rfl ?_
    refine wpL_nil ?_
    refine thenS_n ?_
    exact ⟨_, by omega, ⟨(i + 1), rfl, by omega, rfl, h0_1, rfl, h7_1, rfl, .nil⟩⟩
  · -- decide ((i : Nat) < 8) false
    have p2 := of_decide_eq_false b2
    refine wpS_exit ?_
    refine thenS_x ?_
    refine thenS_x ?_
    refine blockS_h ?_
    refine thenS_n ?_
    refine wpS_seq ?_
    refine wpS_region ?_
    refine s_y (v := .int .u64 ((((valN (l.take i)) : Nat) : Int))) (y_move h5_1) rfl ?_
    refine s_y (v := .int .u64 ((((valN (l.take i)) : Nat) : Int))) (y_assign rfl) rfl ?_
    refine wpL_nil ?_
    refine thenS_n ?_
    refine wpS_ret ?_
    refine fin1 (M := []) (v := .int .u64 ((((valN (l.take i)) : Nat) : Int))) (.inr rfl) (.nil) Try.results163 rfl ?_
    exact fun w' hs => ⟨congrArg (fun n : Nat => Ending.returned (.int .u64 (n : Int))) (by rw [UInt64.toNat_ofNat_of_lt' (by have := valN_lt l; rw [hn, h8] at this; simpa [UInt64.size] using this)]; rw [List.take_of_length_le (by omega)]), hs⟩

theorem num_c (a : Option Addr) (n c : Nat) (l : List UInt8) (w : World) (hn : l.length = n) (hr : Rds w a (l.flatMap byteV)) (h8 : n = 8) : Pure Try.prog 164 #[.slice a n c] w (.int .u64 (UInt64.ofNat (valN l)).toNat) := by
  refine calls_S (n := 18) (σ0 := (upd fr0 0 (.slice a n c))) (D := []) (A := []) Try.func164 rfl Try.ntmps164 rfl (a1_fr _) (SH.start w) ?_
  refine wpS_seq ?_
  refine wpS_region ?_
  refine s_y (v := .int .u64 0) (y_assign rfl) rfl ?_
  refine wpL_nil ?_
  refine thenS_n ?_
  refine wpS_seq ?_
  refine wpS_region ?_
  refine s_y (v := .int .u64 0) (y_assign rfl) rfl ?_
  refine wpL_nil ?_
  refine thenS_n ?_
  refine wpS_seq ?_
  refine wpS_seq ?_
  refine wpS_region ?_
  refine s_y (v := .int .i64 7) (y_assign rfl) rfl ?_
  refine wpL_nil ?_
  refine thenS_n ?_
  refine wpS_block ?_
  refine wpS_loop (fun mez ds σ L => ∃ i : Nat, mez = i ∧ (i ≤ 8) ∧ ds = [] ∧ σ 0 = .slice a n c ∧ σ 3 = .int .u64 ((((valN (l.drop i)) : Nat) : Int)) ∧ σ 4 = .int .i64 ((i : Int) - 1) ∧ Ent L []) (m0 := 8) ⟨8, rfl, by omega, rfl, rfl, (congrArg (Value.int .u64) (by first | rfl | (rw [List.drop_of_length_le (by omega)]; rfl))), (congrArg (Value.int .i64) (by omega)), .nil⟩ ?_
  rintro mez ds σ L ⟨i, hm_1, hf0_1, rfl, h0_1, h3_1, h4_1, hE_1⟩
  refine wpS_ent hE_1 ?_; clear hE_1
  refine wpS_seq ?_
  refine wpS_seq ?_
  refine wpS_region ?_
  refine s_y (v := .int .i64 ((i : Int) - 1)) (y_move h4_1) rfl ?_
  refine s_y (v := .bool (decide ((0 : Int) ≤ ((i : Int) - 1)))) (y_geq (a := (i : Int) - 1) (b := 0) rfl rfl rfl) rfl ?_
  refine wpL_nil ?_
  refine thenS_n ?_
  refine wpS_cond (t := decide ((0 : Int) ≤ ((i : Int) - 1))) rfl (fun b2 => ?_) (fun b2 => ?_)
  · -- decide ((0 : Int) ≤ ((i : Int) - 1)) true
    have p2 := of_decide_eq_true b2
    refine wpS_skip ?_
    refine thenS_n ?_
    refine wpS_seq ?_
    refine wpS_block ?_
    refine wpS_region ?_
    refine s_y (v := .int .u64 ((((valN (l.drop i)) : Nat) : Int))) (y_move h3_1) rfl ?_
    refine s_y (v := .int .u64 ((((valN (l.drop i) * 2 ^ 8) : Nat) : Int))) (y_shl (a := (((valN (l.drop i)) : Nat) : Int)) (b := 8) (c := (((valN (l.drop i) * 2 ^ 8) : Nat) : Int)) rfl rfl (by omega) (u64_shl (m := 8) (by omega) rfl (num_lt' (by omega) (by omega) (by omega)))) rfl ?_
    refine s_y (v := .slice a n c) (y_move h0_1) rfl ?_
    refine s_y (v := .int .i64 ((i : Int) - 1)) (y_move h4_1) rfl ?_
    refine s_y (v := .pointer (some ⟨aB a, aO a + (((i : Int) - 1).toNat) * 1, none⟩)) (y_idx (o := (((i : Int) - 1).toNat) * 1) rfl rfl Try.underlying61 Try.sizeOf5 (oldR hr) ((fl_len byteV_len _).trans (by first | omega | (simp only [List.length_set, List.length_take, List.length_drop]; done) | (simp only [List.length_set, List.length_take, List.length_drop]; omega))) (by decide) (by omega) (by omega) (by omega)) rfl ?_
    refine s_y (v := .int .u8 ((l.getD (((i : Int) - 1).toNat) default).toNat)) (y_load1 (v := .int .u8 ((l.getD (((i : Int) - 1).toNat) default).toNat)) rfl Try.isAgg5 (rd1 (k := (((i : Int) - 1).toNat) * 1) (oldR hr) (fl_get0 byteV_len l (((i : Int) - 1).toNat) (by first | omega | (simp only [List.length_set, List.length_take, List.length_drop]; done) | (simp only [List.length_set, List.length_take, List.length_drop]; omega)) rfl))) rfl ?_
    refine s_y (v := .int .u64 (((((l.getD (((i : Int) - 1).toNat) default).toNat) : Nat) : Int))) (y_convI (a := (l.getD (((i : Int) - 1).toNat) default).toNat) (c := ((((l.getD (((i : Int) - 1).toNat) default).toNat) : Nat) : Int)) rfl Try.underlying5 Try.underlying24 (yu_conv _)) rfl ?_
    refine s_y (v := .int .u64 ((((valN (l.drop (i - 1))) : Nat) : Int))) (y_or (a := (((valN (l.drop i) * 2 ^ 8) : Nat) : Int)) (b := ((((l.getD (((i : Int) - 1).toNat) default).toNat) : Nat) : Int)) (c := (((valN (l.drop (i - 1))) : Nat) : Int)) rfl rfl (num_or' (by omega) (by omega) (by omega))) rfl ?_
    refine s_y (v := .int .u64 ((((valN (l.drop (i - 1))) : Nat) : Int))) (y_assign rfl) rfl ?_
    refine wpL_nil ?_
    refine blockS_n ?_
    refine thenS_n ?_
    refine wpS_region ?_
    refine s_y (v := .int .i64 ((i : Int) - 1)) (y_move h4_1) rfl ?_
    refine s_y (v := .int .i64 (((i : Int) - 1) - 1)) (y_sub (a := (i : Int) - 1) (b := 1) (c := ((i : Int) - 1) - 1) rfl rfl (wI rfl (by omega) (by omega))) rfl ?_
    refine s_y (v := .int .i64 (((i : Int) - 1) - 1)) (y_assign rfl) rfl ?_
    refine wpL_nil ?_
    refine thenS_n ?_
    exact ⟨_, by omega, ⟨(i - 1), rfl, by omega, rfl, h0_1, (congrArg (Value.int .u64) (by first | rfl | (rw [List.drop_of_length_le (by omega)]; rfl))), (congrArg (Value.int .i64) (by omega)), .nil⟩⟩
  · -- decide ((0 : Int) ≤ ((i : Int) - 1)) false
    have p2 := of_decide_eq_false b2
    refine wpS_exit ?_
    refine thenS_x ?_
    refine thenS_x ?_
    refine blockS_h ?_
    refine thenS_n ?_
    refine wpS_seq ?_
    refine wpS_region ?_
    refine s_y (v := .int .u64 ((((valN (l.drop i)) : Nat) : Int))) (y_move h3_1) rfl ?_
    refine s_y (v := .int .u64 ((((valN (l.drop i)) : Nat) : Int))) (y_assign rfl) rfl ?_
    refine wpL_nil ?_
    refine thenS_n ?_
    refine wpS_ret ?_
    refine fin1 (M := []) (v := .int .u64 ((((valN (l.drop i)) : Nat) : Int))) (.inr rfl) (.nil) Try.results164 rfl ?_
    exact fun w' hs => ⟨congrArg (fun n : Nat => Ending.returned (.int .u64 (n : Int))) (by rw [UInt64.toNat_ofNat_of_lt' (by have := valN_lt l; rw [hn, h8] at this; simpa [UInt64.size] using this)]; rw [show i = 0 by omega]; rfl), hs⟩

end Go.Proofs.Ytldkjjnjdjfipaa
