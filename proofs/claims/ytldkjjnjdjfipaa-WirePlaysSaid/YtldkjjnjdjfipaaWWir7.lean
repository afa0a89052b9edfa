/- The reference wire, and bytes held against each other; walked. -/
import Derived.Test.YtldkjjnjdjfipaaWWir6
import Derived.Test.YtldkjjnjdjfipaaStr
import Derived.Test.YtldkjjnjdjfipaaWByt
namespace Go.Proofs.Ytldkjjnjdjfipaa
open Go Go.RowKit
set_option linter.unusedVariables false
set_option linter.unusedSimpArgs false
set_option maxRecDepth 10000
set_option maxHeartbeats 1000000

theorem bytes_c (ax ay : Option Addr) (nx ny cx cy : Nat) (x y : List UInt8) (w : World) (hnx : x.length = nx) (hrx : Rds w ax (x.flatMap byteV)) (hbx : nx ≤ 1000000) (hny : y.length = ny) (hry : Rds w ay (y.flatMap byteV)) (hby : ny ≤ 1000000) : Pure Try.prog 115 #[.slice ax nx cx, .slice ay ny cy] w (.bool ((decide (x = y)))) := by
  refine calls_S (n := 10) (σ0 := (upd (upd fr0 0 (.slice ax nx cx)) 1 (.slice ay ny cy))) (D := []) (A := []) Try.func115 rfl Try.ntmps115 rfl (a2_fr _ _) (SH.start w) ?_
  refine wpS_seq ?_
  refine wpS_region ?_
  refine s_y (v := .bool false) (y_assign rfl) rfl ?_
  refine wpL_nil ?_
  refine thenS_n ?_
  refine wpS_seq ?_
  refine wpS_region ?_
  refine s_y (v := .slice ax nx cx) (y_move rfl) rfl ?_
  refine s_y (v := .string ⟨x.toArray⟩) (y_bstr rfl Try.underlying61 Try.underlying5 Try.underlying9 hnx (fun w hs => ((oldR hrx) w hs))) rfl ?_
  refine s_y (v := .slice ay ny cy) (y_move rfl) rfl ?_
  refine s_y (v := .string ⟨y.toArray⟩) (y_bstr rfl Try.underlying61 Try.underlying5 Try.underlying9 hny (fun w hs => ((oldR hry) w hs))) rfl ?_
  refine s_y (v := .bool (decide (x = y))) (y_eqlStr rfl rfl rfl) rfl ?_
  refine s_y (v := .bool (decide (x = y))) (y_assign rfl) rfl ?_
  refine wpL_nil ?_
  refine thenS_n ?_
  refine wpS_ret ?_
  refine fin1 (M := []) (v := .bool (decide (x = y))) (.inr rfl) (.nil) Try.results115 rfl ?_
  exact fun w' hs => ⟨rfl, hs⟩

theorem b_xor (a : UInt8) : IntKind.u8.wrap ((BitVec.ofInt IntKind.u8.bits (a.toNat : Int) ^^^ BitVec.ofInt IntKind.u8.bits 85).toNat : Int) = ((a ^^^ 85).toNat : Int) := by
  have h : ((BitVec.ofInt IntKind.u8.bits (a.toNat : Int) ^^^ BitVec.ofInt IntKind.u8.bits 85).toNat) = (a ^^^ 85).toNat := by
    show ((BitVec.ofInt 8 (a.toNat : Int) ^^^ BitVec.ofInt 8 85).toNat) = _
    have e : BitVec.ofInt 8 (a.toNat : Int) = a.toBitVec := by
      apply BitVec.eq_of_toNat_eq
      rw [BitVec.toNat_ofInt]
      have := a.toNat_lt
      show ((a.toNat : Int) % 256).toNat = a.toNat
      omega
    rw [e]
    rfl
  rw [h, wu8 (by have := (a ^^^ 85).toNat_lt; omega)]

theorem spoil_c (a : Option Addr) (n c : Nat) (xs : List UInt8) (w : World) (hb : n ≤ 1000000) (hxl : xs.length = n) (hA : SH w (([osl a c n 1 5 (xs.flatMap byteV)] : List Res).flatMap Res.fp) [osl a c n 1 5 (xs.flatMap byteV)] w) : Calls Try.prog 116 #[.slice a n c] w (fun e w' => ∃ ys : List UInt8, e = .returned (.tuple #[]) ∧ SH w (([osl a c n 1 5 (xs.flatMap byteV)] : List Res).flatMap Res.fp) [osl a c n 1 5 (ys.flatMap byteV)] w') := by
  refine calls_S (n := 17) (σ0 := (upd fr0 0 (.slice a n c))) (D := (([osl a c n 1 5 (xs.flatMap byteV)] : List Res).flatMap Res.fp)) (A := [osl a c n 1 5 (xs.flatMap byteV)]) Try.func116 rfl Try.ntmps116 rfl (a1_fr _) hA ?_
  refine wpS_seq ?_
  refine wpS_region ?_
  refine s_y (v := .int .i64 0) (y_assign rfl) rfl ?_
  refine wpL_nil ?_
  refine thenS_n ?_
  refine wpS_block ?_
  refine wpS_loop (fun mez ds σ L => ∃ i : Nat, ∃ ys : List UInt8, mez = n - i ∧ (i ≤ n) ∧ (ys.length = n) ∧ ds = [] ∧ σ 0 = .slice a n c ∧ σ 2 = .int .i64 (((i : Nat) : Int)) ∧ Ent L [osl a c n 1 5 (ys.flatMap byteV)]) (m0 := n - 0) ⟨0, xs, rfl, by omega, by omega, rfl, rfl, rfl, .p .h .nil⟩ ?_
  rintro mez ds σ L ⟨i, ys, hm_1, hf0_1, hf1_1, rfl, h0_1, h2_1, hE_1⟩
  refine wpS_ent hE_1 ?_; clear hE_1
  refine wpS_seq ?_
  refine wpS_seq ?_
  refine wpS_region ?_
  refine s_y (v := .int .i64 (((i : Nat) : Int))) (y_move h2_1) rfl ?_
  refine s_y (v := .slice a n c) (y_move h0_1) rfl ?_
  refine s_y (v := .int .i64 (((n : Nat) : Int))) (y_len (ty' := 0) (at_ := #[]) rfl Try.underlying61) rfl ?_
  refine s_y (v := .bool (decide (i < n))) (y_lss (a := ((i : Nat) : Int)) (b := ((n : Nat) : Int)) (c := decide (i < n)) rfl rfl (decide_eq_decide.2 (by omega))) rfl ?_
  refine wpL_nil ?_
  refine thenS_n ?_
  refine wpS_cond (t := decide (i < n)) rfl (fun b2 => ?_) (fun b2 => ?_)
  · -- decide (i < n) true
    have p2 := of_decide_eq_true b2
    refine wpS_skip ?_
    refine thenS_n ?_
    refine wpS_seq ?_
    refine wpS_block ?_
    refine wpS_region ?_
    refine s_y (v := .slice a n c) (y_move h0_1) rfl ?_
    refine s_y (v := .int .i64 (((i : Nat) : Int))) (y_move h2_1) rfl ?_
    refine s_y (v := .slice a n c) (y_move h0_1) rfl ?_
    refine s_y (v := .int .i64 (((i : Nat) : Int))) (y_move h2_1) rfl ?_
    refine s_y (v := .pointer (some ⟨aB a, aO a + i * 1, none⟩)) (y_idx (o := i * 1) rfl rfl Try.underlying61 Try.sizeOf5 (oslR .h) ((fl_len byteV_len _).trans (by first | omega | (simp only [List.length_set, List.length_take, List.length_drop]; done) | (simp only [List.length_set, List.length_take, List.length_drop]; omega))) (by decide) (by omega) (by omega) (by omega)) rfl ?_
    refine s_y (v := .int .u8 ((ys.getD i default).toNat)) (y_load1 (v := .int .u8 ((ys.getD i default).toNat)) rfl Try.isAgg5 (rd1 (k := i * 1) (oslR .h) (fl_get0 byteV_len ys i (by first | omega | (simp only [List.length_set, List.length_take, List.length_drop]; done) | (simp only [List.length_set, List.length_take, List.length_drop]; omega)) rfl))) rfl ?_
    refine s_y (v := .int .u8 ((((ys.getD i default) ^^^ 85).toNat : Int))) (y_xor (a := (ys.getD i default).toNat) (b := 85) (c := (((ys.getD i default) ^^^ 85).toNat : Int)) rfl rfl (b_xor _)) rfl ?_
    refine s_y (v := .pointer (some ⟨aB a, aO a + i * 1, none⟩)) (y_idx (o := i * 1) rfl rfl Try.underlying61 Try.sizeOf5 (oslR .h) ((fl_len byteV_len _).trans (by first | omega | (simp only [List.length_set, List.length_take, List.length_drop]; done) | (simp only [List.length_set, List.length_take, List.length_drop]; omega))) (by decide) (by omega) (by omega) (by omega)) rfl ?_
    refine s_e0 ?_
    refine e_storeL (enc := byteV) (xs := ys) (y := ((ys.getD i default) ^^^ 85)) byteV_len byteV_one (by decide) rfl rfl rfl Try.sizeOf5 .h (by (try simp only [List.length_set]); omega) ?_
    refine wpL_nil ?_
    refine blockS_n ?_
    refine thenS_n ?_
    refine wpS_region ?_
    refine s_y (v := .int .i64 (((i : Nat) : Int))) (y_move h2_1) rfl ?_
    refine s_y (v := .int .i64 ((((i + 1) : Nat) : Int))) (y_add (a := ((i : Nat) : Int)) (b := 1) (c := (((i + 1) : Nat) : Int)) rfl rfl (wI (by omega) (by omega) (by omega))) rfl ?_
    refine s_y (v := .int .i64 ((((i + 1) : Nat) : Int))) (y_assign rfl) rfl ?_
    refine wpL_nil ?_
    refine thenS_n ?_
    exact ⟨_, by omega, ⟨(i + 1), (ys.set i ((ys.getD i default) ^^^ 85)), rfl, by omega, (by rw [List.length_set]; assumption), rfl, h0_1, rfl, .p .h .nil⟩⟩
  · -- decide (i < n) false
    have p2 := of_decide_eq_false b2
    refine wpS_exit ?_
    refine thenS_x ?_
    refine thenS_x ?_
    refine blockS_h ?_
    exact fin0 (M := [osl a c n 1 5 (ys.flatMap byteV)]) (.inl rfl) (.p .h .nil) Try.results116 (fun w' hs => ⟨ys, rfl, hs⟩)

theorem copyB_c (a : Option Addr) (n c : Nat) (l : List UInt8) (w : World) (hn : l.length = n) (hr : Rds w a (l.flatMap byteV)) (hb : n ≤ 1000000) : MakesS Try.prog 197 #[.slice a n c] w [] byteV 1 5 l := by
  refine calls_S (n := 5) (σ0 := (upd fr0 0 (.slice a n c))) (D := []) (A := []) Try.func197 rfl Try.ntmps197 rfl (a1_fr _) (SH.start w) ?_
  refine wpS_seq ?_
  refine wpS_region ?_
  refine s_y (v := .slice none 0 0) (y_assign rfl) rfl ?_
  refine wpL_nil ?_
  refine thenS_n ?_
  refine wpS_seq ?_
  refine wpS_region ?_
  refine s_y (v := .slice a n c) (y_move rfl) rfl ?_
  refine s_e rfl ?_
  refine OpE.ent (fun w hs => SH.nil0 (sz := 1) (t := 5) w hs) ?_
  refine e_appendL (enc := byteV) (xs := ([] : List UInt8)) (ns := (l : List UInt8)) (zs := l) (bytes := 1) byteV_len byteV_one Try.underlying61 (i := Try.t5) rfl rfl rfl rfl rfl (by decide) rfl rfl (by first | rfl | omega) (by omega) .h (oldR hr) (List.nil_append _) (by omega) (by omega) ?_
  intro a_2 c_3
  refine s_y (v := .slice a_2 l.length c_3) (y_assign rfl) rfl ?_
  refine wpL_nil ?_
  refine thenS_n ?_
  refine wpS_ret ?_
  refine fin1 (M := [osl a_2 c_3 l.length 1 5 (l.flatMap byteV)]) (v := .slice a_2 l.length c_3) (.inr rfl) (.p .h .nil) Try.results197 rfl ?_
  exact fun w' hs => ⟨(a_2, c_3), rfl, hs, trivial⟩

theorem rcut_c (a : Option Addr) (n c : Nat) (l : List Let) (k : Nat) (w : World) (hn : l.length = n) (hr : Rds w a (l.flatMap letV)) (hb : n ≤ 1000000) (hk : k < n) (hc : n ≤ c) : MakesS Try.prog 196 #[.slice a n c, .int .i64 (((k : Nat) : Int))] w [] letV 2 231 (cutL l k) := by
  refine calls_S (n := 14) (σ0 := (upd (upd fr0 0 (.slice a n c)) 1 (.int .i64 (((k : Nat) : Int))))) (D := []) (A := []) Try.func196 rfl Try.ntmps196 rfl (a2_fr _ _) (SH.start w) ?_
  refine wpS_seq ?_
  refine wpS_region ?_
  refine s_y (v := .slice none 0 0) (y_assign rfl) rfl ?_
  refine wpL_nil ?_
  refine thenS_n ?_
  refine wpS_seq ?_
  refine wpS_anyL [] [] (by kernel_rfl) ?_
  refine anyS_take (i := 0) rfl (by kernel_rfl) (by kernel_rfl) (by kernel_rfl) (by kernel_rfl) (Yq.of (v := .slice a n c) (y_move rfl) rfl) (.nil) ?_
  refine anyS_take (i := 1) rfl (by kernel_rfl) (by kernel_rfl) (by kernel_rfl) (by kernel_rfl) (Yq.of (v := .int .i64 (((k : Nat) : Int))) (y_move rfl) rfl) (.nil) ?_
  refine anyS_take (i := 2) rfl (by kernel_rfl) (by kernel_rfl) (by kernel_rfl) (by kernel_rfl) (Yq.of (v := .slice a k c) (y_sliceH (h' := k) rfl rfl Try.underlying134 Try.sizeOf231 (by omega) (by omega) (by omega)) rfl) (.nil) ?_
  refine anyS_take (i := 4) rfl (by kernel_rfl) (by kernel_rfl) (by kernel_rfl) (by kernel_rfl) (Yq.of (v := .slice a n c) (y_move rfl) rfl) (.nil) ?_
  refine anyS_take (i := 5) rfl (by kernel_rfl) (by kernel_rfl) (by kernel_rfl) (by kernel_rfl) (Yq.of (v := .int .i64 (((k : Nat) : Int))) (y_move rfl) rfl) (.nil) ?_
  refine anyS_take (i := 6) rfl (by kernel_rfl) (by kernel_rfl) (by kernel_rfl) (by kernel_rfl) (Yq.of (v := .int .i64 ((((k + 1) : Nat) : Int))) (y_add (a := ((k : Nat) : Int)) (b := 1) (c := (((k + 1) : Nat) : Int)) rfl rfl (wI (by omega) (by omega) (by omega))) rfl) (.nil) ?_
  refine anyS_take (i := 7) rfl (by kernel_rfl) (by kernel_rfl) (by kernel_rfl) (by kernel_rfl) (Yq.of (v := .slice (subA a c (k + 1) 2) (n - (k + 1)) (c - (k + 1))) (y_sliceL (l' := k + 1) rfl rfl Try.underlying134 Try.sizeOf231 (by omega) (by omega) (by omega)) rfl) (.nil) ?_
  refine anyS_all (rs := [3]) (by kernel_rfl) (by simp) ?_
  intro i hi; obtain rfl := List.mem_singleton.1 hi; clear hi
  refine opS_0 rfl rfl ?_
  refine OpE.ent (fun w hs => SH.nil0 (sz := 2) (t := 231) w hs) ?_
  refine e_appendL (enc := letV) (xs := ([] : List Let)) (ns := ((l.take k) : List Let)) (zs := (l.take k)) (bytes := 32) letV_len letV_one Try.underlying134 (i := Try.t231) rfl rfl rfl rfl rfl (by decide) rfl rfl (by first | rfl | omega) (by rw [List.length_take]; omega) .h (rdsT letV_len k (oldR hr)) (List.nil_append _) (by rw [List.length_take]; omega) (by rw [List.length_take]; omega) ?_
  intro a_1 c_2
  refine ⟨.inr (.nil), ?_⟩
  refine anyS_all (rs := [8]) (by kernel_rfl) (by simp) ?_
  intro i hi; obtain rfl := List.mem_singleton.1 hi; clear hi
  refine opS_0 rfl rfl ?_
  refine e_appendL (enc := letV) (xs := ((l.take k) : List Let)) (ns := ((l.drop (k + 1)) : List Let)) (zs := (cutL l k)) (bytes := 32) letV_len letV_one Try.underlying134 (i := Try.t231) rfl rfl rfl rfl rfl (by decide) rfl rfl (by first | rfl | omega) (by rw [List.length_drop]; omega) .h (rdsD letV_len (k + 1) (by omega) (oldR hr)) rfl (by rw [cutL_len (by omega)]; omega) (by rw [cutL_len (by omega)]; omega) ?_
  intro a_3 c_4
  refine ⟨.inr (.nil), ?_⟩
  refine anyS_take (i := 9) rfl (by kernel_rfl) (by kernel_rfl) (by kernel_rfl) (by kernel_rfl) (Yq.of (v := .slice a_3 ((cutL l k).length) c_4) (y_assign rfl) rfl) (.nil) ?_
  refine anyS_done (by kernel_rfl) ?_
  refine thenS_n ?_
  refine wpS_ret ?_
  refine fin1 (M := [osl a_3 c_4 ((cutL l k).length) 2 231 ((cutL l k).flatMap letV)]) (v := .slice a_3 ((cutL l k).length) c_4) (.inr rfl) (.p .h .nil) Try.results196 rfl ?_
  exact fun w' hs => ⟨(a_3, c_4), rfl, hs, trivial⟩

theorem place0_c (wb : Nat) (ua : Option Addr) (un uc : Nat) (i : Int) (w : World) (hun : un ≤ 1000000) (hu : w.cell? ⟨wb, 0, none⟩ = some (.slice ua un uc)) (h0 : un = 0) : Pure Try.prog 195 #[.pointer (some ⟨wb, 0, none⟩), .int .i64 i] w (.int .i64 (-1)) := by
  refine calls_S (n := 20) (σ0 := (upd (upd fr0 0 (.pointer (some ⟨wb, 0, none⟩))) 1 (.int .i64 i))) (D := []) (A := []) Try.func195 rfl Try.ntmps195 rfl (a2_fr _ _) (SH.start w) ?_
  refine wpS_seq ?_
  refine wpS_region ?_
  refine s_y (v := .int .i64 0) (y_assign rfl) rfl ?_
  refine wpL_nil ?_
  refine thenS_n ?_
  refine wpS_seq ?_
  refine wpS_region ?_
  refine s_y (v := .pointer (some ⟨wb, 0, none⟩)) (y_move rfl) rfl ?_
  refine s_y (v := .pointer (some ⟨wb, 0, none⟩)) (y_nilP rfl) rfl ?_
  refine s_y (v := .pointer (some ⟨wb, 0, none⟩)) (y_fieldAddr (o' := 0) rfl Try.underlying136 rfl Try.sizeOf134 (by decide) rfl) rfl ?_
  refine s_y (v := .slice ua un uc) (y_load1 (v := .slice ua un uc) rfl Try.isAgg134 (old1 hu (by simp))) rfl ?_
  refine s_y (v := .int .i64 (((un : Nat) : Int))) (y_len (ty' := 0) (at_ := #[]) rfl Try.underlying134) rfl ?_
  refine s_y (v := .int .i64 (((un : Nat) : Int))) (y_assign rfl) rfl ?_
  refine wpL_nil ?_
  refine thenS_n ?_
  refine wpS_seq ?_
  refine wpS_seq ?_
  refine wpS_region ?_
  refine s_y (v := .int .i64 (((un : Nat) : Int))) (y_move rfl) rfl ?_
  refine s_y (v := .bool (decide ((un : Nat) = 0))) (y_eql (a := ((un : Nat) : Int)) (b := 0) (c := decide ((un : Nat) = 0)) rfl rfl (decide_eq_decide.2 (by omega))) rfl ?_
  refine wpL_nil ?_
  refine thenS_n ?_
  refine wpS_cond_T (t := decide ((un : Nat) = 0)) rfl (decide_eq_true (by omega)) ?_
  refine wpS_seq ?_
  refine wpS_region ?_
  refine s_y (v := .int .i64 (-1)) (y_assign rfl) rfl ?_
  refine wpL_nil ?_
  refine thenS_n ?_
  refine wpS_ret ?_
  refine thenS_r ?_
  refine fin1 (M := []) (v := .int .i64 (-1)) (.inr rfl) (.nil) Try.results195 rfl ?_
  exact fun w' hs => ⟨rfl, hs⟩

theorem place1_c (wb : Nat) (ua : Option Addr) (un uc : Nat) (i : Int) (w : World) (hun : un ≤ 1000000) (hu : w.cell? ⟨wb, 0, none⟩ = some (.slice ua un uc)) (h0 : 0 < un) : Pure Try.prog 195 #[.pointer (some ⟨wb, 0, none⟩), .int .i64 i] w (.int .i64 ((((atI un i) : Nat) : Int))) := by
  refine calls_S (n := 20) (σ0 := (upd (upd fr0 0 (.pointer (some ⟨wb, 0, none⟩))) 1 (.int .i64 i))) (D := []) (A := []) Try.func195 rfl Try.ntmps195 rfl (a2_fr _ _) (SH.start w) ?_
  refine wpS_seq ?_
  refine wpS_region ?_
  refine s_y (v := .int .i64 0) (y_assign rfl) rfl ?_
  refine wpL_nil ?_
  refine thenS_n ?_
  refine wpS_seq ?_
  refine wpS_region ?_
  refine s_y (v := .pointer (some ⟨wb, 0, none⟩)) (y_move rfl) rfl ?_
  refine s_y (v := .pointer (some ⟨wb, 0, none⟩)) (y_nilP rfl) rfl ?_
  refine s_y (v := .pointer (some ⟨wb, 0, none⟩)) (y_fieldAddr (o' := 0) rfl Try.underlying136 rfl Try.sizeOf134 (by decide) rfl) rfl ?_
  refine s_y (v := .slice ua un uc) (y_load1 (v := .slice ua un uc) rfl Try.isAgg134 (old1 hu (by simp))) rfl ?_
  refine s_y (v := .int .i64 (((un : Nat) : Int))) (y_len (ty' := 0) (at_ := #[]) rfl Try.underlying134) rfl ?_
  refine s_y (v := .int .i64 (((un : Nat) : Int))) (y_assign rfl) rfl ?_
  refine wpL_nil ?_
  refine thenS_n ?_
  refine wpS_seq ?_
  refine wpS_seq ?_
  refine wpS_region ?_
  refine s_y (v := .int .i64 (((un : Nat) : Int))) (y_move rfl) rfl ?_
  refine s_y (v := .bool (decide ((un : Nat) = 0))) (y_eql (a := ((un : Nat) : Int)) (b := 0) (c := decide ((un : Nat) = 0)) rfl rfl (decide_eq_decide.2 (by omega))) rfl ?_
  refine wpL_nil ?_
  refine thenS_n ?_
  refine wpS_cond_F (t := decide ((un : Nat) = 0)) rfl (decide_eq_false (by omega)) ?_
  refine wpS_skip ?_
  refine thenS_n ?_
  refine wpS_seq ?_
  refine wpS_region ?_
  refine s_y (v := .int .i64 i) (y_move rfl) rfl ?_
  refine s_y (v := .int .i64 (((un : Nat) : Int))) (y_move rfl) rfl ?_
  have htm := tm_bd i (k := un) (by omega)
  refine s_y (v := .int .i64 (i.tmod ((un : Nat) : Int))) (y_rem (a := i) (b := ((un : Nat) : Int)) (c := i.tmod ((un : Nat) : Int)) rfl rfl (by omega) rfl) rfl ?_
  refine s_y (v := .int .i64 (((un : Nat) : Int))) (y_move rfl) rfl ?_
  refine s_y (v := .int .i64 ((i.tmod ((un : Nat) : Int)) + ((un : Nat) : Int))) (y_add (a := i.tmod ((un : Nat) : Int)) (b := ((un : Nat) : Int)) (c := (i.tmod ((un : Nat) : Int)) + ((un : Nat) : Int)) rfl rfl (wI rfl (by omega) (by omega))) rfl ?_
  refine s_y (v := .int .i64 (((un : Nat) : Int))) (y_move rfl) rfl ?_
  refine s_y (v := .int .i64 ((((atI un i) : Nat) : Int))) (y_rem (a := (i.tmod ((un : Nat) : Int)) + ((un : Nat) : Int)) (b := ((un : Nat) : Int)) (c := (((atI un i) : Nat) : Int)) rfl rfl (by omega) (atI_eq i (by omega))) rfl ?_
  refine s_y (v := .int .i64 ((((atI un i) : Nat) : Int))) (y_assign rfl) rfl ?_
  refine wpL_nil ?_
  refine thenS_n ?_
  refine wpS_ret ?_
  refine fin1 (M := []) (v := .int .i64 ((((atI un i) : Nat) : Int))) (.inr rfl) (.nil) Try.results195 rfl ?_
  exact fun w' hs => ⟨rfl, hs⟩

theorem rdeliver0_c (wb : Nat) (ua : Option Addr) (uc : Nat) (ba : Option Addr) (bc : Nat) (us bs : List Let) (i : Int) (w : World) (hul : us.length ≤ 100000) (hbl : bs.length ≤ 100000) (hA : SH w (([cel wb 136 [.slice ua us.length uc, .slice ba bs.length bc], osl ua uc us.length 2 231 (us.flatMap letV), osl ba bc bs.length 2 231 (bs.flatMap letV), famb (us ++ bs)] : List Res).flatMap Res.fp) [cel wb 136 [.slice ua us.length uc, .slice ba bs.length bc], osl ua uc us.length 2 231 (us.flatMap letV), osl ba bc bs.length 2 231 (bs.flatMap letV), famb (us ++ bs)] w) (h0 : us.length = 0) : Calls Try.prog 111 #[.pointer (some ⟨wb, 0, none⟩), .int .i64 i] w (fun e w' => ∃ x : (Option Addr × Nat) × (Option Addr × Nat), e = .returned (.bool (decide (0 < us.length))) ∧ SH w (([cel wb 136 [.slice ua us.length uc, .slice ba bs.length bc], osl ua uc us.length 2 231 (us.flatMap letV), osl ba bc bs.length 2 231 (bs.flatMap letV), famb (us ++ bs)] : List Res).flatMap Res.fp) [cel wb 136 [.slice x.1.1 ((dlU us i).length) x.1.2, .slice x.2.1 ((dlB us bs i).length) x.2.2], osl x.1.1 x.1.2 ((dlU us i).length) 2 231 ((dlU us i).flatMap letV), osl x.2.1 x.2.2 ((dlB us bs i).length) 2 231 ((dlB us bs i).flatMap letV), famb ((dlU us i) ++ (dlB us bs i))] w') := by
  refine calls_S (n := 37) (σ0 := (upd (upd fr0 0 (.pointer (some ⟨wb, 0, none⟩))) 1 (.int .i64 i))) (D := (([cel wb 136 [.slice ua us.length uc, .slice ba bs.length bc], osl ua uc us.length 2 231 (us.flatMap letV), osl ba bc bs.length 2 231 (bs.flatMap letV), famb (us ++ bs)] : List Res).flatMap Res.fp)) (A := [cel wb 136 [.slice ua us.length uc, .slice ba bs.length bc], osl ua uc us.length 2 231 (us.flatMap letV), osl ba bc bs.length 2 231 (bs.flatMap letV), famb (us ++ bs)]) Try.func111 rfl Try.ntmps111 rfl (a2_fr _ _) hA ?_
  have hlt : 0 < us.length → atI us.length i < us.length := fun h => atI_lt i h
  refine wpS_cap (.t .h) (fun hcapU => ?_)
  refine wpS_cap (.t (.t .h)) (fun hcapB => ?_)
  refine wpS_seq ?_
  refine wpS_region ?_
  refine s_y (v := .bool false) (y_assign rfl) rfl ?_
  refine wpL_nil ?_
  refine thenS_n ?_
  refine wpS_seq ?_
  refine wpS_region ?_
  refine s_y (v := .pointer (some ⟨wb, 0, none⟩)) (y_move rfl) rfl ?_
  refine s_y (v := .int .i64 i) (y_move rfl) rfl ?_
  refine s_y (v := .int .i64 (-1)) (y_call (args := #[.pointer (some ⟨wb, 0, none⟩), .int .i64 i]) (v := .int .i64 (-1)) Try.call195 (ev2 rfl rfl) (fun w hs => place0_c wb ua us.length uc i w (by omega) (own1 .h rfl w hs) (by omega))) rfl ?_
  refine s_y (v := .int .i64 (-1)) (y_assign rfl) rfl ?_
  refine wpL_nil ?_
  refine thenS_n ?_
  refine wpS_seq ?_
  refine wpS_seq ?_
  refine wpS_region ?_
  refine s_y (v := .int .i64 (-1)) (y_move rfl) rfl ?_
  refine s_y (v := .bool true) (y_lss (a := -1) (b := 0) (c := true) rfl rfl (by decide)) rfl ?_
  refine wpL_nil ?_
  refine thenS_n ?_
  refine wpS_cond_t rfl ?_
  refine wpS_seq ?_
  refine wpS_region ?_
  refine s_y (v := .bool false) (y_assign rfl) rfl ?_
  refine wpL_nil ?_
  refine thenS_n ?_
  refine wpS_ret ?_
  refine thenS_r ?_
  refine fin1 (M := [cel wb 136 [.slice ua us.length uc, .slice ba bs.length bc], osl ua uc us.length 2 231 (us.flatMap letV), osl ba bc bs.length 2 231 (bs.flatMap letV), famb (us ++ bs)]) (v := .bool false) (.inr rfl) (.p .h (.p .h (.p .h (.p .h .nil)))) Try.results111 rfl ?_
  exact fun w' hs => ⟨((ua, uc), (ba, bc)), (congrArg (fun b : Bool => Ending.returned (.bool b)) (show _ = decide (0 < us.length) from (by first | exact (decide_eq_false (by omega)).symm | rfl))), by rw [show (dlU us i) = us from (by unfold dlU; rw [if_pos (by omega)])]; rw [show (dlB us bs i) = bs from (by unfold dlB; rw [if_pos (by omega)])]; exact hs⟩

theorem rdeliver1_c (wb : Nat) (ua : Option Addr) (uc : Nat) (ba : Option Addr) (bc : Nat) (us bs : List Let) (i : Int) (w : World) (hul : us.length ≤ 100000) (hbl : bs.length ≤ 100000) (hA : SH w (([cel wb 136 [.slice ua us.length uc, .slice ba bs.length bc], osl ua uc us.length 2 231 (us.flatMap letV), osl ba bc bs.length 2 231 (bs.flatMap letV), famb (us ++ bs)] : List Res).flatMap Res.fp) [cel wb 136 [.slice ua us.length uc, .slice ba bs.length bc], osl ua uc us.length 2 231 (us.flatMap letV), osl ba bc bs.length 2 231 (bs.flatMap letV), famb (us ++ bs)] w) (h0 : 0 < us.length) : Calls Try.prog 111 #[.pointer (some ⟨wb, 0, none⟩), .int .i64 i] w (fun e w' => ∃ x : (Option Addr × Nat) × (Option Addr × Nat), e = .returned (.bool (decide (0 < us.length))) ∧ SH w (([cel wb 136 [.slice ua us.length uc, .slice ba bs.length bc], osl ua uc us.length 2 231 (us.flatMap letV), osl ba bc bs.length 2 231 (bs.flatMap letV), famb (us ++ bs)] : List Res).flatMap Res.fp) [cel wb 136 [.slice x.1.1 ((dlU us i).length) x.1.2, .slice x.2.1 ((dlB us bs i).length) x.2.2], osl x.1.1 x.1.2 ((dlU us i).length) 2 231 ((dlU us i).flatMap letV), osl x.2.1 x.2.2 ((dlB us bs i).length) 2 231 ((dlB us bs i).flatMap letV), famb ((dlU us i) ++ (dlB us bs i))] w') := by
  refine calls_S (n := 37) (σ0 := (upd (upd fr0 0 (.pointer (some ⟨wb, 0, none⟩))) 1 (.int .i64 i))) (D := (([cel wb 136 [.slice ua us.length uc, .slice ba bs.length bc], osl ua uc us.length 2 231 (us.flatMap letV), osl ba bc bs.length 2 231 (bs.flatMap letV), famb (us ++ bs)] : List Res).flatMap Res.fp)) (A := [cel wb 136 [.slice ua us.length uc, .slice ba bs.length bc], osl ua uc us.length 2 231 (us.flatMap letV), osl ba bc bs.length 2 231 (bs.flatMap letV), famb (us ++ bs)]) Try.func111 rfl Try.ntmps111 rfl (a2_fr _ _) hA ?_
  have hlt : 0 < us.length → atI us.length i < us.length := fun h => atI_lt i h
  refine wpS_cap (.t .h) (fun hcapU => ?_)
  refine wpS_cap (.t (.t .h)) (fun hcapB => ?_)
  refine wpS_seq ?_
  refine wpS_region ?_
  refine s_y (v := .bool false) (y_assign rfl) rfl ?_
  refine wpL_nil ?_
  refine thenS_n ?_
  refine wpS_seq ?_
  refine wpS_region ?_
  refine s_y (v := .pointer (some ⟨wb, 0, none⟩)) (y_move rfl) rfl ?_
  refine s_y (v := .int .i64 i) (y_move rfl) rfl ?_
  refine s_y (v := .int .i64 ((((atI us.length i) : Nat) : Int))) (y_call (args := #[.pointer (some ⟨wb, 0, none⟩), .int .i64 i]) (v := .int .i64 ((((atI us.length i) : Nat) : Int))) Try.call195 (ev2 rfl rfl) (fun w hs => place1_c wb ua us.length uc i w (by omega) (own1 .h rfl w hs) (by omega))) rfl ?_
  refine s_y (v := .int .i64 ((((atI us.length i) : Nat) : Int))) (y_assign rfl) rfl ?_
  refine wpL_nil ?_
  refine thenS_n ?_
  refine wpS_seq ?_
  refine wpS_seq ?_
  refine wpS_region ?_
  refine s_y (v := .int .i64 ((((atI us.length i) : Nat) : Int))) (y_move rfl) rfl ?_
  refine s_y (v := .bool false) (y_lss (a := (((atI us.length i) : Nat) : Int)) (b := 0) (c := false) rfl rfl (decide_eq_false (by omega))) rfl ?_
  refine wpL_nil ?_
  refine thenS_n ?_
  refine wpS_cond_f rfl ?_
  refine wpS_skip ?_
  refine thenS_n ?_
  refine wpS_seq ?_
  refine wpS_anyL [] [] (by kernel_rfl) ?_
  refine anyS_take (i := 0) rfl (by kernel_rfl) (by kernel_rfl) (by kernel_rfl) (by kernel_rfl) (Yq.of (v := .pointer (some ⟨wb, 0, none⟩)) (y_move rfl) rfl) (.nil) ?_
  refine anyS_take (i := 1) rfl (by kernel_rfl) (by kernel_rfl) (by kernel_rfl) (by kernel_rfl) (Yq.of (v := .pointer (some ⟨wb, 0, none⟩)) (y_move rfl) rfl) (.nil) ?_
  refine anyS_take (i := 2) rfl (by kernel_rfl) (by kernel_rfl) (by kernel_rfl) (by kernel_rfl) (Yq.of (v := .pointer (some ⟨wb, 0, none⟩)) (y_nilP rfl) rfl) (.nil) ?_
  refine anyS_take (i := 3) rfl (by kernel_rfl) (by kernel_rfl) (by kernel_rfl) (by kernel_rfl) (Yq.of (v := .pointer (some ⟨wb, 1, none⟩)) (y_fieldAddr (o' := 1) rfl Try.underlying136 rfl Try.sizeOf134 (by decide) rfl) rfl) (.nil) ?_
  refine anyS_take (i := 6) rfl (by kernel_rfl) (by kernel_rfl) (by kernel_rfl) (by kernel_rfl) (Yq.of (v := .pointer (some ⟨wb, 0, none⟩)) (y_move rfl) rfl) (.nil) ?_
  refine anyS_take (i := 7) rfl (by kernel_rfl) (by kernel_rfl) (by kernel_rfl) (by kernel_rfl) (Yq.of (v := .pointer (some ⟨wb, 0, none⟩)) (y_nilP rfl) rfl) (.nil) ?_
  refine anyS_take (i := 8) rfl (by kernel_rfl) (by kernel_rfl) (by kernel_rfl) (by kernel_rfl) (Yq.of (v := .pointer (some ⟨wb, 0, none⟩)) (y_fieldAddr (o' := 0) rfl Try.underlying136 rfl Try.sizeOf134 (by decide) rfl) rfl) (.nil) ?_
  refine anyS_take (i := 10) rfl (by kernel_rfl) (by kernel_rfl) (by kernel_rfl) (by kernel_rfl) (Yq.of (v := .int .i64 ((((atI us.length i) : Nat) : Int))) (y_move rfl) rfl) (.nil) ?_
  refine anyS_all (rs := [4, 9]) (by kernel_rfl) (by simp) ?_
  intro i hi1; simp only [List.mem_cons, List.not_mem_nil, or_false] at hi1; rcases hi1 with rfl | rfl
  · -- number 4 first
    refine opS_0 rfl rfl ?_
    refine OpE.y (v := .slice ba bs.length bc) (y_load1 rfl Try.isAgg134 (own1 .h rfl)) ?_
    refine ⟨.inr (.nil), ?_⟩
    refine anyS_all (rs := [5, 9]) (by kernel_rfl) (by simp) ?_
    intro i hi2; simp only [List.mem_cons, List.not_mem_nil, or_false] at hi2; rcases hi2 with rfl | rfl
    · -- number 5 first
      refine opS_0 rfl rfl ?_
      refine OpE.ent (fun w hs => SH.nil0 (sz := 2) (t := 231) w hs) ?_
      refine e_appendL (enc := letV) (xs := ([] : List Let)) (ns := (bs : List Let)) (zs := bs) (bytes := 32) letV_len letV_one Try.underlying134 (i := Try.t231) rfl rfl rfl rfl rfl (by decide) rfl rfl (by first | rfl | omega) (by first | rfl | omega) .h (oslR (.t (.t (.t .h)))) (List.nil_append _) (by omega) (by omega) ?_
      intro a_4 c_5
      refine ⟨.inr (.nil), ?_⟩
      refine anyS_all (rs := [9]) (by kernel_rfl) (by simp) ?_
      intro i hi; obtain rfl := List.mem_singleton.1 hi; clear hi
      refine opS_0 rfl rfl ?_
      refine OpE.y (v := .slice ua us.length uc) (y_load1 rfl Try.isAgg134 (own1 (.t .h) rfl)) ?_
      refine ⟨.inr (.nil), ?_⟩
      refine anyS_all (rs := [11]) (by kernel_rfl) (by simp) ?_
      intro i hi; obtain rfl := List.mem_singleton.1 hi; clear hi
      refine opS_0 rfl rfl ?_
      refine OpE.y (v := .pointer (some ⟨aB ua, aO ua + (atI us.length i) * 2, none⟩)) (y_idx (o := (atI us.length i) * 2) rfl rfl Try.underlying134 Try.sizeOf231 (oslR (.t (.t .h))) (fl_len letV_len _) (by decide) (by omega) (by omega) (by omega)) ?_
      refine ⟨.inr (.nil), ?_⟩
      refine anyS_all (rs := [12]) (by kernel_rfl) (by simp) ?_
      intro i hi; obtain rfl := List.mem_singleton.1 hi; clear hi
      refine opS_0 rfl rfl ?_
      refine OpE.y (v := .agg #[.int .i64 ((us.getD (atI us.length i) default).to), .slice ((us.getD (atI us.length i) default).a) ((us.getD (atI us.length i) default).n) ((us.getD (atI us.length i) default).c)]) (y_loadN (vs := letV (us.getD (atI us.length i) default)) rfl Try.isAgg231 Try.sizeOf231 (rdN (oslR (.t (.t .h))) (fl_getN letV_len us (atI us.length i) (by first | omega | (simp only [List.length_set, List.length_take, List.length_drop]; done) | (simp only [List.length_set, List.length_take, List.length_drop]; omega))))) ?_
      refine ⟨.inr (.nil), ?_⟩
      refine anyS_all (rs := [13]) (by kernel_rfl) (by simp) ?_
      intro i hi; obtain rfl := List.mem_singleton.1 hi; clear hi
      refine opS_0 rfl rfl ?_
      refine e_bsliceL (e := 231) (m := [(0, .agg #[.int .i64 ((us.getD (atI us.length i) default).to), .slice ((us.getD (atI us.length i) default).a) ((us.getD (atI us.length i) default).n) ((us.getD (atI us.length i) default).c)])]) (l := [.int .i64 ((us.getD (atI us.length i) default).to), .slice ((us.getD (atI us.length i) default).a) ((us.getD (atI us.length i) default).n) ((us.getD (atI us.length i) default).c)]) (evc rfl evn) (fun w => by kernel_rfl) ?_
      intro b_6
      refine ⟨.inr (.nil), ?_⟩
      refine anyS_all (rs := [14]) (by kernel_rfl) (by simp) ?_
      intro i hi; obtain rfl := List.mem_singleton.1 hi; clear hi
      refine opS_0 rfl rfl ?_
      refine e_appendL (enc := letV) (xs := (bs : List Let)) (ns := ([(us.getD (atI us.length i) default)] : List Let)) (zs := (bs ++ [(us.getD (atI us.length i) default)])) (bytes := 32) letV_len letV_one Try.underlying134 (i := Try.t231) rfl rfl rfl rfl rfl (by decide) rfl rfl (by first | rfl | omega) (by first | rfl | omega) (.t .h) (fun w hs => celR .h w hs) (by first | rfl | simp) (by (try simp only [List.length_append, List.length_cons, List.length_nil] at *); omega) (by (try simp only [List.length_append, List.length_cons, List.length_nil] at *); omega) ?_
      intro a_7 c_8
      refine ⟨.inr (.nil), ?_⟩
      refine anyS_take (i := 15) rfl (by kernel_rfl) (by kernel_rfl) (by kernel_rfl) (by kernel_rfl) (Yq.of (v := .pointer (some ⟨wb, 0, none⟩)) (y_nilP rfl) rfl) (.nil) ?_
      refine anyS_take (i := 16) rfl (by kernel_rfl) (by kernel_rfl) (by kernel_rfl) (by kernel_rfl) (Yq.of (v := .pointer (some ⟨wb, 1, none⟩)) (y_fieldAddr (o' := 1) rfl Try.underlying136 rfl Try.sizeOf134 (by decide) rfl) rfl) (.nil) ?_
      refine anyS_all (rs := [17]) (by kernel_rfl) (by simp) ?_
      intro i hi; obtain rfl := List.mem_singleton.1 hi; clear hi
      refine opS_0 rfl rfl ?_
      refine e_store (vs := [.slice a_7 ((bs ++ [(us.getD (atI us.length i) default)]).length) c_8]) (l' := [.slice ua us.length uc, .slice a_7 ((bs ++ [(us.getD (atI us.length i) default)]).length) c_8]) rfl rfl rfl rfl Try.sizeOf134 (.t (.t .h)) (Nat.le_of_ble_eq_true rfl) rfl ?_
      refine ⟨.inr (.nil), ?_⟩
      refine anyS_done (by kernel_rfl) ?_
      refine thenS_n ?_
      refine wpS_seq ?_
      refine wpS_region ?_
      refine s_y (v := .pointer (some ⟨wb, 0, none⟩)) (y_move rfl) rfl ?_
      refine s_y (v := .pointer (some ⟨wb, 0, none⟩)) (y_move rfl) rfl ?_
      refine s_y (v := .pointer (some ⟨wb, 0, none⟩)) (y_nilP rfl) rfl ?_
      refine s_y (v := .pointer (some ⟨wb, 0, none⟩)) (y_fieldAddr (o' := 0) rfl Try.underlying136 rfl Try.sizeOf134 (by decide) rfl) rfl ?_
      refine s_y (v := .slice ua us.length uc) (y_load1 rfl Try.isAgg134 (own1 .h rfl)) rfl ?_
      refine s_y (v := .int .i64 ((((atI us.length i) : Nat) : Int))) (y_move rfl) rfl ?_
      refine s_e rfl ?_
      refine e_call (f := 196) (args := #[.slice ua us.length uc, .int .i64 ((((atI us.length i) : Nat) : Int))]) (X := Option Addr × Nat) (A := []) (M := [cel wb 136 [.slice ua us.length uc, .slice a_7 ((bs ++ [(us.getD (atI us.length i) default)]).length) c_8], osl a_7 c_8 ((bs ++ [(us.getD (atI us.length i) default)]).length) 2 231 ((bs ++ [(us.getD (atI us.length i) default)]).flatMap letV), cel b_6 231 [.int .i64 ((us.getD (atI us.length i) default).to), .slice ((us.getD (atI us.length i) default).a) ((us.getD (atI us.length i) default).n) ((us.getD (atI us.length i) default).c)], osl ua uc us.length 2 231 (us.flatMap letV), osl ba bc bs.length 2 231 (bs.flatMap letV), famb (us ++ bs)]) (V := slV (cutL us (atI us.length i))) (A' := fun x => [slR letV 2 231 (cutL us (atI us.length i)) x]) (C := fun x => (cutL us (atI us.length i)).length ≤ x.2) Try.call196 (ev2 rfl rfl) (.p .h (.p .h (.p .h (.p .h (.p .h (.p .h .nil)))))) (fun w hs => (rcut_c ua us.length uc us (atI us.length i) w rfl (oslR (.t (.t (.t .h))) w hs) (by omega) (by omega) (by omega)).cap) ?_
      rintro ⟨a_9, c_10⟩ hc11; replace hc11 : (cutL us (atI us.length i)).length ≤ c_10 := hc11
      refine s_y (v := .pointer (some ⟨wb, 0, none⟩)) (y_nilP rfl) rfl ?_
      refine s_y (v := .pointer (some ⟨wb, 0, none⟩)) (y_fieldAddr (o' := 0) rfl Try.underlying136 rfl Try.sizeOf134 (by decide) rfl) rfl ?_
      refine s_e0 ?_
      refine e_store (vs := [.slice a_9 ((cutL us (atI us.length i)).length) c_10]) (l' := [.slice a_9 ((cutL us (atI us.length i)).length) c_10, .slice a_7 ((bs ++ [(us.getD (atI us.length i) default)]).length) c_8]) rfl rfl rfl rfl Try.sizeOf134 (.t .h) (Nat.le_of_ble_eq_true rfl) rfl ?_
      refine wpL_nil ?_
      refine thenS_n ?_
      refine wpS_seq ?_
      refine wpS_region ?_
      refine s_y (v := .bool true) (y_assign rfl) rfl ?_
      refine wpL_nil ?_
      refine thenS_n ?_
      refine wpS_ret ?_
      refine fin1 (M := [cel wb 136 [.slice a_9 ((cutL us (atI us.length i)).length) c_10, .slice a_7 ((bs ++ [(us.getD (atI us.length i) default)]).length) c_8], osl a_9 c_10 ((cutL us (atI us.length i)).length) 2 231 ((cutL us (atI us.length i)).flatMap letV), osl a_7 c_8 ((bs ++ [(us.getD (atI us.length i) default)]).length) 2 231 ((bs ++ [(us.getD (atI us.length i) default)]).flatMap letV), famb ((cutL us (atI us.length i)) ++ (bs ++ [(us.getD (atI us.length i) default)]))]) (v := .bool true) (.inr rfl) (.p .h (.p .h (.p .h (.w (.t (.t (.t .h))) (famb_sub (dl_sub (atI_lt i (by omega)))) .nil)))) Try.results111 rfl ?_
      exact fun w' hs => ⟨((a_9, c_10), (a_7, c_8)), (congrArg (fun b : Bool => Ending.returned (.bool b)) (show _ = decide (0 < us.length) from (by first | exact (decide_eq_true (by omega)).symm | rfl))), by rw [show (dlU us i) = (cutL us (atI us.length i)) from (by unfold dlU; rw [if_neg (by omega)])]; rw [show (dlB us bs i) = (bs ++ [(us.getD (atI us.length i) default)]) from (by unfold dlB; rw [if_neg (by omega)])]; exact hs⟩
    · -- number 9 first
      refine opS_0 rfl rfl ?_
      refine OpE.y (v := .slice ua us.length uc) (y_load1 rfl Try.isAgg134 (own1 .h rfl)) ?_
      refine ⟨.inr (.nil), ?_⟩
      refine anyS_all (rs := [5, 11]) (by kernel_rfl) (by simp) ?_
      intro i hi13; simp only [List.mem_cons, List.not_mem_nil, or_false] at hi13; rcases hi13 with rfl | rfl
      · -- number 5 first
        refine opS_0 rfl rfl ?_
        refine OpE.ent (fun w hs => SH.nil0 (sz := 2) (t := 231) w hs) ?_
        refine e_appendL (enc := letV) (xs := ([] : List Let)) (ns := (bs : List Let)) (zs := bs) (bytes := 32) letV_len letV_one Try.underlying134 (i := Try.t231) rfl rfl rfl rfl rfl (by decide) rfl rfl (by first | rfl | omega) (by first | rfl | omega) .h (oslR (.t (.t (.t .h)))) (List.nil_append _) (by omega) (by omega) ?_
        intro a_15 c_16
        refine ⟨.inr (.nil), ?_⟩
        refine anyS_all (rs := [11]) (by kernel_rfl) (by simp) ?_
        intro i hi; obtain rfl := List.mem_singleton.1 hi; clear hi
        refine opS_0 rfl rfl ?_
        refine OpE.y (v := .pointer (some ⟨aB ua, aO ua + (atI us.length i) * 2, none⟩)) (y_idx (o := (atI us.length i) * 2) rfl rfl Try.underlying134 Try.sizeOf231 (oslR (.t (.t .h))) (fl_len letV_len _) (by decide) (by omega) (by omega) (by omega)) ?_
        refine ⟨.inr (.nil), ?_⟩
        refine anyS_all (rs := [12]) (by kernel_rfl) (by simp) ?_
        intro i hi; obtain rfl := List.mem_singleton.1 hi; clear hi
        refine opS_0 rfl rfl ?_
        refine OpE.y (v := .agg #[.int .i64 ((us.getD (atI us.length i) default).to), .slice ((us.getD (atI us.length i) default).a) ((us.getD (atI us.length i) default).n) ((us.getD (atI us.length i) default).c)]) (y_loadN (vs := letV (us.getD (atI us.length i) default)) rfl Try.isAgg231 Try.sizeOf231 (rdN (oslR (.t (.t .h))) (fl_getN letV_len us (atI us.length i) (by first | omega | (simp only [List.length_set, List.length_take, List.length_drop]; done) | (simp only [List.length_set, List.length_take, List.length_drop]; omega))))) ?_
        refine ⟨.inr (.nil), ?_⟩
        refine anyS_all (rs := [13]) (by kernel_rfl) (by simp) ?_
        intro i hi; obtain rfl := List.mem_singleton.1 hi; clear hi
        refine opS_0 rfl rfl ?_
        refine e_bsliceL (e := 231) (m := [(0, .agg #[.int .i64 ((us.getD (atI us.length i) default).to), .slice ((us.getD (atI us.length i) default).a) ((us.getD (atI us.length i) default).n) ((us.getD (atI us.length i) default).c)])]) (l := [.int .i64 ((us.getD (atI us.length i) default).to), .slice ((us.getD (atI us.length i) default).a) ((us.getD (atI us.length i) default).n) ((us.getD (atI us.length i) default).c)]) (evc rfl evn) (fun w => by kernel_rfl) ?_
        intro b_17
        refine ⟨.inr (.nil), ?_⟩
        refine anyS_all (rs := [14]) (by kernel_rfl) (by simp) ?_
        intro i hi; obtain rfl := List.mem_singleton.1 hi; clear hi
        refine opS_0 rfl rfl ?_
        refine e_appendL (enc := letV) (xs := (bs : List Let)) (ns := ([(us.getD (atI us.length i) default)] : List Let)) (zs := (bs ++ [(us.getD (atI us.length i) default)])) (bytes := 32) letV_len letV_one Try.underlying134 (i := Try.t231) rfl rfl rfl rfl rfl (by decide) rfl rfl (by first | rfl | omega) (by first | rfl | omega) (.t .h) (fun w hs => celR .h w hs) (by first | rfl | simp) (by (try simp only [List.length_append, List.length_cons, List.length_nil] at *); omega) (by (try simp only [List.length_append, List.length_cons, List.length_nil] at *); omega) ?_
        intro a_18 c_19
        refine ⟨.inr (.nil), ?_⟩
        refine anyS_take (i := 15) rfl (by kernel_rfl) (by kernel_rfl) (by kernel_rfl) (by kernel_rfl) (Yq.of (v := .pointer (some ⟨wb, 0, none⟩)) (y_nilP rfl) rfl) (.nil) ?_
        refine anyS_take (i := 16) rfl (by kernel_rfl) (by kernel_rfl) (by kernel_rfl) (by kernel_rfl) (Yq.of (v := .pointer (some ⟨wb, 1, none⟩)) (y_fieldAddr (o' := 1) rfl Try.underlying136 rfl Try.sizeOf134 (by decide) rfl) rfl) (.nil) ?_
        refine anyS_all (rs := [17]) (by kernel_rfl) (by simp) ?_
        intro i hi; obtain rfl := List.mem_singleton.1 hi; clear hi
        refine opS_0 rfl rfl ?_
        refine e_store (vs := [.slice a_18 ((bs ++ [(us.getD (atI us.length i) default)]).length) c_19]) (l' := [.slice ua us.length uc, .slice a_18 ((bs ++ [(us.getD (atI us.length i) default)]).length) c_19]) rfl rfl rfl rfl Try.sizeOf134 (.t (.t .h)) (Nat.le_of_ble_eq_true rfl) rfl ?_
        refine ⟨.inr (.nil), ?_⟩
        refine anyS_done (by kernel_rfl) ?_
        refine thenS_n ?_
        refine wpS_seq ?_
        refine wpS_region ?_
        refine s_y (v := .pointer (some ⟨wb, 0, none⟩)) (y_move rfl) rfl ?_
        refine s_y (v := .pointer (some ⟨wb, 0, none⟩)) (y_move rfl) rfl ?_
        refine s_y (v := .pointer (some ⟨wb, 0, none⟩)) (y_nilP rfl) rfl ?_
        refine s_y (v := .pointer (some ⟨wb, 0, none⟩)) (y_fieldAddr (o' := 0) rfl Try.underlying136 rfl Try.sizeOf134 (by decide) rfl) rfl ?_
        refine s_y (v := .slice ua us.length uc) (y_load1 rfl Try.isAgg134 (own1 .h rfl)) rfl ?_
        refine s_y (v := .int .i64 ((((atI us.length i) : Nat) : Int))) (y_move rfl) rfl ?_
        refine s_e rfl ?_
        refine e_call (f := 196) (args := #[.slice ua us.length uc, .int .i64 ((((atI us.length i) : Nat) : Int))]) (X := Option Addr × Nat) (A := []) (M := [cel wb 136 [.slice ua us.length uc, .slice a_18 ((bs ++ [(us.getD (atI us.length i) default)]).length) c_19], osl a_18 c_19 ((bs ++ [(us.getD (atI us.length i) default)]).length) 2 231 ((bs ++ [(us.getD (atI us.length i) default)]).flatMap letV), cel b_17 231 [.int .i64 ((us.getD (atI us.length i) default).to), .slice ((us.getD (atI us.length i) default).a) ((us.getD (atI us.length i) default).n) ((us.getD (atI us.length i) default).c)], osl ua uc us.length 2 231 (us.flatMap letV), osl ba bc bs.length 2 231 (bs.flatMap letV), famb (us ++ bs)]) (V := slV (cutL us (atI us.length i))) (A' := fun x => [slR letV 2 231 (cutL us (atI us.length i)) x]) (C := fun x => (cutL us (atI us.length i)).length ≤ x.2) Try.call196 (ev2 rfl rfl) (.p .h (.p .h (.p .h (.p .h (.p .h (.p .h .nil)))))) (fun w hs => (rcut_c ua us.length uc us (atI us.length i) w rfl (oslR (.t (.t (.t .h))) w hs) (by omega) (by omega) (by omega)).cap) ?_
        rintro ⟨a_20, c_21⟩ hc22; replace hc22 : (cutL us (atI us.length i)).length ≤ c_21 := hc22
        refine s_y (v := .pointer (some ⟨wb, 0, none⟩)) (y_nilP rfl) rfl ?_
        refine s_y (v := .pointer (some ⟨wb, 0, none⟩)) (y_fieldAddr (o' := 0) rfl Try.underlying136 rfl Try.sizeOf134 (by decide) rfl) rfl ?_
        refine s_e0 ?_
        refine e_store (vs := [.slice a_20 ((cutL us (atI us.length i)).length) c_21]) (l' := [.slice a_20 ((cutL us (atI us.length i)).length) c_21, .slice a_18 ((bs ++ [(us.getD (atI us.length i) default)]).length) c_19]) rfl rfl rfl rfl Try.sizeOf134 (.t .h) (Nat.le_of_ble_eq_true rfl) rfl ?_
        refine wpL_nil ?_
        refine thenS_n ?_
        refine wpS_seq ?_
        refine wpS_region ?_
        refine s_y (v := .bool true) (y_assign rfl) rfl ?_
        refine wpL_nil ?_
        refine thenS_n ?_
        refine wpS_ret ?_
        refine fin1 (M := [cel wb 136 [.slice a_20 ((cutL us (atI us.length i)).length) c_21, .slice a_18 ((bs ++ [(us.getD (atI us.length i) default)]).length) c_19], osl a_20 c_21 ((cutL us (atI us.length i)).length) 2 231 ((cutL us (atI us.length i)).flatMap letV), osl a_18 c_19 ((bs ++ [(us.getD (atI us.length i) default)]).length) 2 231 ((bs ++ [(us.getD (atI us.length i) default)]).flatMap letV), famb ((cutL us (atI us.length i)) ++ (bs ++ [(us.getD (atI us.length i) default)]))]) (v := .bool true) (.inr rfl) (.p .h (.p .h (.p .h (.w (.t (.t (.t .h))) (famb_sub (dl_sub (atI_lt i (by omega)))) .nil)))) Try.results111 rfl ?_
        exact fun w' hs => ⟨((a_20, c_21), (a_18, c_19)), (congrArg (fun b : Bool => Ending.returned (.bool b)) (show _ = decide (0 < us.length) from (by first | exact (decide_eq_true (by omega)).symm | rfl))), by rw [show (dlU us i) = (cutL us (atI us.length i)) from (by unfold dlU; rw [if_neg (by omega)])]; rw [show (dlB us bs i) = (bs ++ [(us.getD (atI us.length i) default)]) from (by unfold dlB; rw [if_neg (by omega)])]; exact hs⟩
      · -- number 11 first
        refine opS_0 rfl rfl ?_
        refine OpE.y (v := .pointer (some ⟨aB ua, aO ua + (atI us.length i) * 2, none⟩)) (y_idx (o := (atI us.length i) * 2) rfl rfl Try.underlying134 Try.sizeOf231 (oslR (.t .h)) (fl_len letV_len _) (by decide) (by omega) (by omega) (by omega)) ?_
        refine ⟨.inr (.nil), ?_⟩
        refine anyS_all (rs := [5, 12]) (by kernel_rfl) (by simp) ?_
        intro i hi24; simp only [List.mem_cons, List.not_mem_nil, or_false] at hi24; rcases hi24 with rfl | rfl
        · -- number 5 first
          refine opS_0 rfl rfl ?_
          refine OpE.ent (fun w hs => SH.nil0 (sz := 2) (t := 231) w hs) ?_
          refine e_appendL (enc := letV) (xs := ([] : List Let)) (ns := (bs : List Let)) (zs := bs) (bytes := 32) letV_len letV_one Try.underlying134 (i := Try.t231) rfl rfl rfl rfl rfl (by decide) rfl rfl (by first | rfl | omega) (by first | rfl | omega) .h (oslR (.t (.t (.t .h)))) (List.nil_append _) (by omega) (by omega) ?_
          intro a_26 c_27
          refine ⟨.inr (.nil), ?_⟩
          refine anyS_all (rs := [12]) (by kernel_rfl) (by simp) ?_
          intro i hi; obtain rfl := List.mem_singleton.1 hi; clear hi
          refine opS_0 rfl rfl ?_
          refine OpE.y (v := .agg #[.int .i64 ((us.getD (atI us.length i) default).to), .slice ((us.getD (atI us.length i) default).a) ((us.getD (atI us.length i) default).n) ((us.getD (atI us.length i) default).c)]) (y_loadN (vs := letV (us.getD (atI us.length i) default)) rfl Try.isAgg231 Try.sizeOf231 (rdN (oslR (.t (.t .h))) (fl_getN letV_len us (atI us.length i) (by first | omega | (simp only [List.length_set, List.length_take, List.length_drop]; done) | (simp only [List.length_set, List.length_take, List.length_drop]; omega))))) ?_
          refine ⟨.inr (.nil), ?_⟩
          refine anyS_all (rs := [13]) (by kernel_rfl) (by simp) ?_
          intro i hi; obtain rfl := List.mem_singleton.1 hi; clear hi
          refine opS_0 rfl rfl ?_
          refine e_bsliceL (e := 231) (m := [(0, .agg #[.int .i64 ((us.getD (atI us.length i) default).to), .slice ((us.getD (atI us.length i) default).a) ((us.getD (atI us.length i) default).n) ((us.getD (atI us.length i) default).c)])]) (l := [.int .i64 ((us.getD (atI us.length i) default).to), .slice ((us.getD (atI us.length i) default).a) ((us.getD (atI us.length i) default).n) ((us.getD (atI us.length i) default).c)]) (evc rfl evn) (fun w => by kernel_rfl) ?_
          intro b_28
          refine ⟨.inr (.nil), ?_⟩
          refine anyS_all (rs := [14]) (by kernel_rfl) (by simp) ?_
          intro i hi; obtain rfl := List.mem_singleton.1 hi; clear hi
          refine opS_0 rfl rfl ?_
          refine e_appendL (enc := letV) (xs := (bs : List Let)) (ns := ([(us.getD (atI us.length i) default)] : List Let)) (zs := (bs ++ [(us.getD (atI us.length i) default)])) (bytes := 32) letV_len letV_one Try.underlying134 (i := Try.t231) rfl rfl rfl rfl rfl (by decide) rfl rfl (by first | rfl | omega) (by first | rfl | omega) (.t .h) (fun w hs => celR .h w hs) (by first | rfl | simp) (by (try simp only [List.length_append, List.length_cons, List.length_nil] at *); omega) (by (try simp only [List.length_append, List.length_cons, List.length_nil] at *); omega) ?_
          intro a_29 c_30
          refine ⟨.inr (.nil), ?_⟩
          refine anyS_take (i := 15) rfl (by kernel_rfl) (by kernel_rfl) (by kernel_rfl) (by kernel_rfl) (Yq.of (v := .pointer (some ⟨wb, 0, none⟩)) (y_nilP rfl) rfl) (.nil) ?_
          refine anyS_take (i := 16) rfl (by kernel_rfl) (by kernel_rfl) (by kernel_rfl) (by kernel_rfl) (Yq.of (v := .pointer (some ⟨wb, 1, none⟩)) (y_fieldAddr (o' := 1) rfl Try.underlying136 rfl Try.sizeOf134 (by decide) rfl) rfl) (.nil) ?_
          refine anyS_all (rs := [17]) (by kernel_rfl) (by simp) ?_
          intro i hi; obtain rfl := List.mem_singleton.1 hi; clear hi
          refine opS_0 rfl rfl ?_
          refine e_store (vs := [.slice a_29 ((bs ++ [(us.getD (atI us.length i) default)]).length) c_30]) (l' := [.slice ua us.length uc, .slice a_29 ((bs ++ [(us.getD (atI us.length i) default)]).length) c_30]) rfl rfl rfl rfl Try.sizeOf134 (.t (.t .h)) (Nat.le_of_ble_eq_true rfl) rfl ?_
          refine ⟨.inr (.nil), ?_⟩
          refine anyS_done (by kernel_rfl) ?_
          refine thenS_n ?_
          refine wpS_seq ?_
          refine wpS_region ?_
          refine s_y (v := .pointer (some ⟨wb, 0, none⟩)) (y_move rfl) rfl ?_
          refine s_y (v := .pointer (some ⟨wb, 0, none⟩)) (y_move rfl) rfl ?_
          refine s_y (v := .pointer (some ⟨wb, 0, none⟩)) (y_nilP rfl) rfl ?_
          refine s_y (v := .pointer (some ⟨wb, 0, none⟩)) (y_fieldAddr (o' := 0) rfl Try.underlying136 rfl Try.sizeOf134 (by decide) rfl) rfl ?_
          refine s_y (v := .slice ua us.length uc) (y_load1 rfl Try.isAgg134 (own1 .h rfl)) rfl ?_
          refine s_y (v := .int .i64 ((((atI us.length i) : Nat) : Int))) (y_move rfl) rfl ?_
          refine s_e rfl ?_
          refine e_call (f := 196) (args := #[.slice ua us.length uc, .int .i64 ((((atI us.length i) : Nat) : Int))]) (X := Option Addr × Nat) (A := []) (M := [cel wb 136 [.slice ua us.length uc, .slice a_29 ((bs ++ [(us.getD (atI us.length i) default)]).length) c_30], osl a_29 c_30 ((bs ++ [(us.getD (atI us.length i) default)]).length) 2 231 ((bs ++ [(us.getD (atI us.length i) default)]).flatMap letV), cel b_28 231 [.int .i64 ((us.getD (atI us.length i) default).to), .slice ((us.getD (atI us.length i) default).a) ((us.getD (atI us.length i) default).n) ((us.getD (atI us.length i) default).c)], osl ua uc us.length 2 231 (us.flatMap letV), osl ba bc bs.length 2 231 (bs.flatMap letV), famb (us ++ bs)]) (V := slV (cutL us (atI us.length i))) (A' := fun x => [slR letV 2 231 (cutL us (atI us.length i)) x]) (C := fun x => (cutL us (atI us.length i)).length ≤ x.2) Try.call196 (ev2 rfl rfl) (.p .h (.p .h (.p .h (.p .h (.p .h (.p .h .nil)))))) (fun w hs => (rcut_c ua us.length uc us (atI us.length i) w rfl (oslR (.t (.t (.t .h))) w hs) (by omega) (by omega) (by omega)).cap) ?_
          rintro ⟨a_31, c_32⟩ hc33; replace hc33 : (cutL us (atI us.length i)).length ≤ c_32 := hc33
          refine s_y (v := .pointer (some ⟨wb, 0, none⟩)) (y_nilP rfl) rfl ?_
          refine s_y (v := .pointer (some ⟨wb, 0, none⟩)) (y_fieldAddr (o' := 0) rfl Try.underlying136 rfl Try.sizeOf134 (by decide) rfl) rfl ?_
          refine s_e0 ?_
          refine e_store (vs := [.slice a_31 ((cutL us (atI us.length i)).length) c_32]) (l' := [.slice a_31 ((cutL us (atI us.length i)).length) c_32, .slice a_29 ((bs ++ [(us.getD (atI us.length i) default)]).length) c_30]) rfl rfl rfl rfl Try.sizeOf134 (.t .h) (Nat.le_of_ble_eq_true rfl) rfl ?_
          refine wpL_nil ?_
          refine thenS_n ?_
          refine wpS_seq ?_
          refine wpS_region ?_
          refine s_y (v := .bool true) (y_assign rfl) rfl ?_
          refine wpL_nil ?_
          refine thenS_n ?_
          refine wpS_ret ?_
          refine fin1 (M := [cel wb 136 [.slice a_31 ((cutL us (atI us.length i)).length) c_32, .slice a_29 ((bs ++ [(us.getD (atI us.length i) default)]).length) c_30], osl a_31 c_32 ((cutL us (atI us.length i)).length) 2 231 ((cutL us (atI us.length i)).flatMap letV), osl a_29 c_30 ((bs ++ [(us.getD (atI us.length i) default)]).length) 2 231 ((bs ++ [(us.getD (atI us.length i) default)]).flatMap letV), famb ((cutL us (atI us.length i)) ++ (bs ++ [(us.getD (atI us.length i) default)]))]) (v := .bool true) (.inr rfl) (.p .h (.p .h (.p .h (.w (.t (.t (.t .h))) (famb_sub (dl_sub (atI_lt i (by omega)))) .nil)))) Try.results111 rfl ?_
          exact fun w' hs => ⟨((a_31, c_32), (a_29, c_30)), (congrArg (fun b : Bool => Ending.returned (.bool b)) (show _ = decide (0 < us.length) from (by first | exact (decide_eq_true (by omega)).symm | rfl))), by rw [show (dlU us i) = (cutL us (atI us.length i)) from (by unfold dlU; rw [if_neg (by omega)])]; rw [show (dlB us bs i) = (bs ++ [(us.getD (atI us.length i) default)]) from (by unfold dlB; rw [if_neg (by omega)])]; exact hs⟩
        · -- number 12 first
          refine opS_0 rfl rfl ?_
          refine OpE.y (v := .agg #[.int .i64 ((us.getD (atI us.length i) default).to), .slice ((us.getD (atI us.length i) default).a) ((us.getD (atI us.length i) default).n) ((us.getD (atI us.length i) default).c)]) (y_loadN (vs := letV (us.getD (atI us.length i) default)) rfl Try.isAgg231 Try.sizeOf231 (rdN (oslR (.t .h)) (fl_getN letV_len us (atI us.length i) (by first | omega | (simp only [List.length_set, List.length_take, List.length_drop]; done) | (simp only [List.length_set, List.length_take, List.length_drop]; omega))))) ?_
          refine ⟨.inr (.nil), ?_⟩
          refine anyS_all (rs := [5, 13]) (by kernel_rfl) (by simp) ?_
          intro i hi35; simp only [List.mem_cons, List.not_mem_nil, or_false] at hi35; rcases hi35 with rfl | rfl
          · -- number 5 first
            refine opS_0 rfl rfl ?_
            refine OpE.ent (fun w hs => SH.nil0 (sz := 2) (t := 231) w hs) ?_
            refine e_appendL (enc := letV) (xs := ([] : List Let)) (ns := (bs : List Let)) (zs := bs) (bytes := 32) letV_len letV_one Try.underlying134 (i := Try.t231) rfl rfl rfl rfl rfl (by decide) rfl rfl (by first | rfl | omega) (by first | rfl | omega) .h (oslR (.t (.t (.t .h)))) (List.nil_append _) (by omega) (by omega) ?_
            intro a_37 c_38
            refine ⟨.inr (.nil), ?_⟩
            refine anyS_all (rs := [13]) (by kernel_rfl) (by simp) ?_
            intro i hi; obtain rfl := List.mem_singleton.1 hi; clear hi
            refine opS_0 rfl rfl ?_
            refine e_bsliceL (e := 231) (m := [(0, .agg #[.int .i64 ((us.getD (atI us.length i) default).to), .slice ((us.getD (atI us.length i) default).a) ((us.getD (atI us.length i) default).n) ((us.getD (atI us.length i) default).c)])]) (l := [.int .i64 ((us.getD (atI us.length i) default).to), .slice ((us.getD (atI us.length i) default).a) ((us.getD (atI us.length i) default).n) ((us.getD (atI us.length i) default).c)]) (evc rfl evn) (fun w => by kernel_rfl) ?_
            intro b_39
            refine ⟨.inr (.nil), ?_⟩
            refine anyS_all (rs := [14]) (by kernel_rfl) (by simp) ?_
            intro i hi; obtain rfl := List.mem_singleton.1 hi; clear hi
            refine opS_0 rfl rfl ?_
            refine e_appendL (enc := letV) (xs := (bs : List Let)) (ns := ([(us.getD (atI us.length i) default)] : List Let)) (zs := (bs ++ [(us.getD (atI us.length i) default)])) (bytes := 32) letV_len letV_one Try.underlying134 (i := Try.t231) rfl rfl rfl rfl rfl (by decide) rfl rfl (by first | rfl | omega) (by first | rfl | omega) (.t .h) (fun w hs => celR .h w hs) (by first | rfl | simp) (by (try simp only [List.length_append, List.length_cons, List.length_nil] at *); omega) (by (try simp only [List.length_append, List.length_cons, List.length_nil] at *); omega) ?_
            intro a_40 c_41
            refine ⟨.inr (.nil), ?_⟩
            refine anyS_take (i := 15) rfl (by kernel_rfl) (by kernel_rfl) (by kernel_rfl) (by kernel_rfl) (Yq.of (v := .pointer (some ⟨wb, 0, none⟩)) (y_nilP rfl) rfl) (.nil) ?_
            refine anyS_take (i := 16) rfl (by kernel_rfl) (by kernel_rfl) (by kernel_rfl) (by kernel_rfl) (Yq.of (v := .pointer (some ⟨wb, 1, none⟩)) (y_fieldAddr (o' := 1) rfl Try.underlying136 rfl Try.sizeOf134 (by decide) rfl) rfl) (.nil) ?_
            refine anyS_all (rs := [17]) (by kernel_rfl) (by simp) ?_
            intro i hi; obtain rfl := List.mem_singleton.1 hi; clear hi
            refine opS_0 rfl rfl ?_
            refine e_store (vs := [.slice a_40 ((bs ++ [(us.getD (atI us.length i) default)]).length) c_41]) (l' := [.slice ua us.length uc, .slice a_40 ((bs ++ [(us.getD (atI us.length i) default)]).length) c_41]) rfl rfl rfl rfl Try.sizeOf134 (.t (.t .h)) (Nat.le_of_ble_eq_true rfl) rfl ?_
            refine ⟨.inr (.nil), ?_⟩
            refine anyS_done (by kernel_rfl) ?_
            refine thenS_n ?_
            refine wpS_seq ?_
            refine wpS_region ?_
            refine s_y (v := .pointer (some ⟨wb, 0, none⟩)) (y_move rfl) rfl ?_
            refine s_y (v := .pointer (some ⟨wb, 0, none⟩)) (y_move rfl) rfl ?_
            refine s_y (v := .pointer (some ⟨wb, 0, none⟩)) (y_nilP rfl) rfl ?_
            refine s_y (v := .pointer (some ⟨wb, 0, none⟩)) (y_fieldAddr (o' := 0) rfl Try.underlying136 rfl Try.sizeOf134 (by decide) rfl) rfl ?_
            refine s_y (v := .slice ua us.length uc) (y_load1 rfl Try.isAgg134 (own1 .h rfl)) rfl ?_
            refine s_y (v := .int .i64 ((((atI us.length i) : Nat) : Int))) (y_move rfl) rfl ?_
            refine s_e rfl ?_
            refine e_call (f := 196) (args := #[.slice ua us.length uc, .int .i64 ((((atI us.length i) : Nat) : Int))]) (X := Option Addr × Nat) (A := []) (M := [cel wb 136 [.slice ua us.length uc, .slice a_40 ((bs ++ [(us.getD (atI us.length i) default)]).length) c_41], osl a_40 c_41 ((bs ++ [(us.getD (atI us.length i) default)]).length) 2 231 ((bs ++ [(us.getD (atI us.length i) default)]).flatMap letV), cel b_39 231 [.int .i64 ((us.getD (atI us.length i) default).to), .slice ((us.getD (atI us.length i) default).a) ((us.getD (atI us.length i) default).n) ((us.getD (atI us.length i) default).c)], osl ua uc us.length 2 231 (us.flatMap letV), osl ba bc bs.length 2 231 (bs.flatMap letV), famb (us ++ bs)]) (V := slV (cutL us (atI us.length i))) (A' := fun x => [slR letV 2 231 (cutL us (atI us.length i)) x]) (C := fun x => (cutL us (atI us.length i)).length ≤ x.2) Try.call196 (ev2 rfl rfl) (.p .h (.p .h (.p .h (.p .h (.p .h (.p .h .nil)))))) (fun w hs => (rcut_c ua us.length uc us (atI us.length i) w rfl (oslR (.t (.t (.t .h))) w hs) (by omega) (by omega) (by omega)).cap) ?_
            rintro ⟨a_42, c_43⟩ hc44; replace hc44 : (cutL us (atI us.length i)).length ≤ c_43 := hc44
            refine s_y (v := .pointer (some ⟨wb, 0, none⟩)) (y_nilP rfl) rfl ?_
            refine s_y (v := .pointer (some ⟨wb, 0, none⟩)) (y_fieldAddr (o' := 0) rfl Try.underlying136 rfl Try.sizeOf134 (by decide) rfl) rfl ?_
            refine s_e0 ?_
            refine e_store (vs := [.slice a_42 ((cutL us (atI us.length i)).length) c_43]) (l' := [.slice a_42 ((cutL us (atI us.length i)).length) c_43, .slice a_40 ((bs ++ [(us.getD (atI us.length i) default)]).length) c_41]) rfl rfl rfl rfl Try.sizeOf134 (.t .h) (Nat.le_of_ble_eq_true rfl) rfl ?_
            refine wpL_nil ?_
            refine thenS_n ?_
            refine wpS_seq ?_
            refine wpS_region ?_
            refine s_y (v := .bool true) (y_assign rfl) rfl ?_
            refine wpL_nil ?_
            refine thenS_n ?_
            refine wpS_ret ?_
            refine fin1 (M := [cel wb 136 [.slice a_42 ((cutL us (atI us.length i)).length) c_43, .slice a_40 ((bs ++ [(us.getD (atI us.length i) default)]).length) c_41], osl a_42 c_43 ((cutL us (atI us.length i)).length) 2 231 ((cutL us (atI us.length i)).flatMap letV), osl a_40 c_41 ((bs ++ [(us.getD (atI us.length i) default)]).length) 2 231 ((bs ++ [(us.getD (atI us.length i) default)]).flatMap letV), famb ((cutL us (atI us.length i)) ++ (bs ++ [(us.getD (atI us.length i) default)]))]) (v := .bool true) (.inr rfl) (.p .h (.p .h (.p .h (.w (.t (.t (.t .h))) (famb_sub (dl_sub (atI_lt i (by omega)))) .nil)))) Try.results111 rfl ?_
            exact fun w' hs => ⟨((a_42, c_43), (a_40, c_41)), (congrArg (fun b : Bool => Ending.returned (.bool b)) (show _ = decide (0 < us.length) from (by first | exact (decide_eq_true (by omega)).symm | rfl))), by rw [show (dlU us i) = (cutL us (atI us.length i)) from (by unfold dlU; rw [if_neg (by omega)])]; rw [show (dlB us bs i) = (bs ++ [(us.getD (atI us.length i) default)]) from (by unfold dlB; rw [if_neg (by omega)])]; exact hs⟩
          · -- number 13 first
            refine opS_0 rfl rfl ?_
            refine e_bsliceL (e := 231) (m := [(0, .agg #[.int .i64 ((us.getD (atI us.length i) default).to), .slice ((us.getD (atI us.length i) default).a) ((us.getD (atI us.length i) default).n) ((us.getD (atI us.length i) default).c)])]) (l := [.int .i64 ((us.getD (atI us.length i) default).to), .slice ((us.getD (atI us.length i) default).a) ((us.getD (atI us.length i) default).n) ((us.getD (atI us.length i) default).c)]) (evc rfl evn) (fun w => by kernel_rfl) ?_
            intro b_46
            refine ⟨.inr (.nil), ?_⟩
            refine anyS_all (rs := [5]) (by kernel_rfl) (by simp) ?_
            intro i hi; obtain rfl := List.mem_singleton.1 hi; clear hi
            refine opS_0 rfl rfl ?_
            refine OpE.ent (fun w hs => SH.nil0 (sz := 2) (t := 231) w hs) ?_
            refine e_appendL (enc := letV) (xs := ([] : List Let)) (ns := (bs : List Let)) (zs := bs) (bytes := 32) letV_len letV_one Try.underlying134 (i := Try.t231) rfl rfl rfl rfl rfl (by decide) rfl rfl (by first | rfl | omega) (by first | rfl | omega) .h (oslR (.t (.t (.t (.t .h))))) (List.nil_append _) (by omega) (by omega) ?_
            intro a_48 c_49
            refine ⟨.inr (.nil), ?_⟩
            refine anyS_all (rs := [14]) (by kernel_rfl) (by simp) ?_
            intro i hi; obtain rfl := List.mem_singleton.1 hi; clear hi
            refine opS_0 rfl rfl ?_
            refine e_appendL (enc := letV) (xs := (bs : List Let)) (ns := ([(us.getD (atI us.length i) default)] : List Let)) (zs := (bs ++ [(us.getD (atI us.length i) default)])) (bytes := 32) letV_len letV_one Try.underlying134 (i := Try.t231) rfl rfl rfl rfl rfl (by decide) rfl rfl (by first | rfl | omega) (by first | rfl | omega) .h (fun w hs => celR (.t .h) w hs) (by first | rfl | simp) (by (try simp only [List.length_append, List.length_cons, List.length_nil] at *); omega) (by (try simp only [List.length_append, List.length_cons, List.length_nil] at *); omega) ?_
            intro a_50 c_51
            refine ⟨.inr (.nil), ?_⟩
            refine anyS_take (i := 15) rfl (by kernel_rfl) (by kernel_rfl) (by kernel_rfl) (by kernel_rfl) (Yq.of (v := .pointer (some ⟨wb, 0, none⟩)) (y_nilP rfl) rfl) (.nil) ?_
            refine anyS_take (i := 16) rfl (by kernel_rfl) (by kernel_rfl) (by kernel_rfl) (by kernel_rfl) (Yq.of (v := .pointer (some ⟨wb, 1, none⟩)) (y_fieldAddr (o' := 1) rfl Try.underlying136 rfl Try.sizeOf134 (by decide) rfl) rfl) (.nil) ?_
            refine anyS_all (rs := [17]) (by kernel_rfl) (by simp) ?_
            intro i hi; obtain rfl := List.mem_singleton.1 hi; clear hi
            refine opS_0 rfl rfl ?_
            refine e_store (vs := [.slice a_50 ((bs ++ [(us.getD (atI us.length i) default)]).length) c_51]) (l' := [.slice ua us.length uc, .slice a_50 ((bs ++ [(us.getD (atI us.length i) default)]).length) c_51]) rfl rfl rfl rfl Try.sizeOf134 (.t (.t .h)) (Nat.le_of_ble_eq_true rfl) rfl ?_
            refine ⟨.inr (.nil), ?_⟩
            refine anyS_done (by kernel_rfl) ?_
            refine thenS_n ?_
            refine wpS_seq ?_
            refine wpS_region ?_
            refine s_y (v := .pointer (some ⟨wb, 0, none⟩)) (y_move rfl) rfl ?_
            refine s_y (v := .pointer (some ⟨wb, 0, none⟩)) (y_move rfl) rfl ?_
            refine s_y (v := .pointer (some ⟨wb, 0, none⟩)) (y_nilP rfl) rfl ?_
            refine s_y (v := .pointer (some ⟨wb, 0, none⟩)) (y_fieldAddr (o' := 0) rfl Try.underlying136 rfl Try.sizeOf134 (by decide) rfl) rfl ?_
            refine s_y (v := .slice ua us.length uc) (y_load1 rfl Try.isAgg134 (own1 .h rfl)) rfl ?_
            refine s_y (v := .int .i64 ((((atI us.length i) : Nat) : Int))) (y_move rfl) rfl ?_
            refine s_e rfl ?_
            refine e_call (f := 196) (args := #[.slice ua us.length uc, .int .i64 ((((atI us.length i) : Nat) : Int))]) (X := Option Addr × Nat) (A := []) (M := [cel wb 136 [.slice ua us.length uc, .slice a_50 ((bs ++ [(us.getD (atI us.length i) default)]).length) c_51], osl a_50 c_51 ((bs ++ [(us.getD (atI us.length i) default)]).length) 2 231 ((bs ++ [(us.getD (atI us.length i) default)]).flatMap letV), cel b_46 231 [.int .i64 ((us.getD (atI us.length i) default).to), .slice ((us.getD (atI us.length i) default).a) ((us.getD (atI us.length i) default).n) ((us.getD (atI us.length i) default).c)], osl ua uc us.length 2 231 (us.flatMap letV), osl ba bc bs.length 2 231 (bs.flatMap letV), famb (us ++ bs)]) (V := slV (cutL us (atI us.length i))) (A' := fun x => [slR letV 2 231 (cutL us (atI us.length i)) x]) (C := fun x => (cutL us (atI us.length i)).length ≤ x.2) Try.call196 (ev2 rfl rfl) (.p .h (.p .h (.p .h (.p .h (.p .h (.p .h .nil)))))) (fun w hs => (rcut_c ua us.length uc us (atI us.length i) w rfl (oslR (.t (.t (.t .h))) w hs) (by omega) (by omega) (by omega)).cap) ?_
            rintro ⟨a_52, c_53⟩ hc54; replace hc54 : (cutL us (atI us.length i)).length ≤ c_53 := hc54
            refine s_y (v := .pointer (some ⟨wb, 0, none⟩)) (y_nilP rfl) rfl ?_
            refine s_y (v := .pointer (some ⟨wb, 0, none⟩)) (y_fieldAddr (o' := 0) rfl Try.underlying136 rfl Try.sizeOf134 (by decide) rfl) rfl ?_
            refine s_e0 ?_
            refine e_store (vs := [.slice a_52 ((cutL us (atI us.length i)).length) c_53]) (l' := [.slice a_52 ((cutL us (atI us.length i)).length) c_53, .slice a_50 ((bs ++ [(us.getD (atI us.length i) default)]).length) c_51]) rfl rfl rfl rfl Try.sizeOf134 (.t .h) (Nat.le_of_ble_eq_true rfl) rfl ?_
            refine wpL_nil ?_
            refine thenS_n ?_
            refine wpS_seq ?_
            refine wpS_region ?_
            refine s_y (v := .bool true) (y_assign rfl) rfl ?_
            refine wpL_nil ?_
            refine thenS_n ?_
            refine wpS_ret ?_
            refine fin1 (M := [cel wb 136 [.slice a_52 ((cutL us (atI us.length i)).length) c_53, .slice a_50 ((bs ++ [(us.getD (atI us.length i) default)]).length) c_51], osl a_52 c_53 ((cutL us (atI us.length i)).length) 2 231 ((cutL us (atI us.length i)).flatMap letV), osl a_50 c_51 ((bs ++ [(us.getD (atI us.length i) default)]).length) 2 231 ((bs ++ [(us.getD (atI us.length i) default)]).flatMap letV), famb ((cutL us (atI us.length i)) ++ (bs ++ [(us.getD (atI us.length i) default)]))]) (v := .bool true) (.inr rfl) (.p .h (.p .h (.p .h (.w (.t (.t (.t .h))) (famb_sub (dl_sub (atI_lt i (by omega)))) .nil)))) Try.results111 rfl ?_
            exact fun w' hs => ⟨((a_52, c_53), (a_50, c_51)), (congrArg (fun b : Bool => Ending.returned (.bool b)) (show _ = decide (0 < us.length) from (by first | exact (decide_eq_true (by omega)).symm | rfl))), by rw [show (dlU us i) = (cutL us (atI us.length i)) from (by unfold dlU; rw [if_neg (by omega)])]; rw [show (dlB us bs i) = (bs ++ [(us.getD (atI us.length i) default)]) from (by unfold dlB; rw [if_neg (by omega)])]; exact hs⟩
  · -- number 9 first
    refine opS_0 rfl rfl ?_
    refine OpE.y (v := .slice ua us.length uc) (y_load1 rfl Try.isAgg134 (own1 .h rfl)) ?_
    refine ⟨.inr (.nil), ?_⟩
    refine anyS_all (rs := [4, 11]) (by kernel_rfl) (by simp) ?_
    intro i hi56; simp only [List.mem_cons, List.not_mem_nil, or_false] at hi56; rcases hi56 with rfl | rfl
    · -- number 4 first
      refine opS_0 rfl rfl ?_
      refine OpE.y (v := .slice ba bs.length bc) (y_load1 rfl Try.isAgg134 (own1 .h rfl)) ?_
      refine ⟨.inr (.nil), ?_⟩
      refine anyS_all (rs := [5, 11]) (by kernel_rfl) (by simp) ?_
      intro i hi57; simp only [List.mem_cons, List.not_mem_nil, or_false] at hi57; rcases hi57 with rfl | rfl
      · -- number 5 first
        refine opS_0 rfl rfl ?_
        refine OpE.ent (fun w hs => SH.nil0 (sz := 2) (t := 231) w hs) ?_
        refine e_appendL (enc := letV) (xs := ([] : List Let)) (ns := (bs : List Let)) (zs := bs) (bytes := 32) letV_len letV_one Try.underlying134 (i := Try.t231) rfl rfl rfl rfl rfl (by decide) rfl rfl (by first | rfl | omega) (by first | rfl | omega) .h (oslR (.t (.t (.t .h)))) (List.nil_append _) (by omega) (by omega) ?_
        intro a_59 c_60
        refine ⟨.inr (.nil), ?_⟩
        refine anyS_all (rs := [11]) (by kernel_rfl) (by simp) ?_
        intro i hi; obtain rfl := List.mem_singleton.1 hi; clear hi
        refine opS_0 rfl rfl ?_
        refine OpE.y (v := .pointer (some ⟨aB ua, aO ua + (atI us.length i) * 2, none⟩)) (y_idx (o := (atI us.length i) * 2) rfl rfl Try.underlying134 Try.sizeOf231 (oslR (.t (.t .h))) (fl_len letV_len _) (by decide) (by omega) (by omega) (by omega)) ?_
        refine ⟨.inr (.nil), ?_⟩
        refine anyS_all (rs := [12]) (by kernel_rfl) (by simp) ?_
        intro i hi; obtain rfl := List.mem_singleton.1 hi; clear hi
        refine opS_0 rfl rfl ?_
        refine OpE.y (v := .agg #[.int .i64 ((us.getD (atI us.length i) default).to), .slice ((us.getD (atI us.length i) default).a) ((us.getD (atI us.length i) default).n) ((us.getD (atI us.length i) default).c)]) (y_loadN (vs := letV (us.getD (atI us.length i) default)) rfl Try.isAgg231 Try.sizeOf231 (rdN (oslR (.t (.t .h))) (fl_getN letV_len us (atI us.length i) (by first | omega | (simp only [List.length_set, List.length_take, List.length_drop]; done) | (simp only [List.length_set, List.length_take, List.length_drop]; omega))))) ?_
        refine ⟨.inr (.nil), ?_⟩
        refine anyS_all (rs := [13]) (by kernel_rfl) (by simp) ?_
        intro i hi; obtain rfl := List.mem_singleton.1 hi; clear hi
        refine opS_0 rfl rfl ?_
        refine e_bsliceL (e := 231) (m := [(0, .agg #[.int .i64 ((us.getD (atI us.length i) default).to), .slice ((us.getD (atI us.length i) default).a) ((us.getD (atI us.length i) default).n) ((us.getD (atI us.length i) default).c)])]) (l := [.int .i64 ((us.getD (atI us.length i) default).to), .slice ((us.getD (atI us.length i) default).a) ((us.getD (atI us.length i) default).n) ((us.getD (atI us.length i) default).c)]) (evc rfl evn) (fun w => by kernel_rfl) ?_
        intro b_61
        refine ⟨.inr (.nil), ?_⟩
        refine anyS_all (rs := [14]) (by kernel_rfl) (by simp) ?_
        intro i hi; obtain rfl := List.mem_singleton.1 hi; clear hi
        refine opS_0 rfl rfl ?_
        refine e_appendL (enc := letV) (xs := (bs : List Let)) (ns := ([(us.getD (atI us.length i) default)] : List Let)) (zs := (bs ++ [(us.getD (atI us.length i) default)])) (bytes := 32) letV_len letV_one Try.underlying134 (i := Try.t231) rfl rfl rfl rfl rfl (by decide) rfl rfl (by first | rfl | omega) (by first | rfl | omega) (.t .h) (fun w hs => celR .h w hs) (by first | rfl | simp) (by (try simp only [List.length_append, List.length_cons, List.length_nil] at *); omega) (by (try simp only [List.length_append, List.length_cons, List.length_nil] at *); omega) ?_
        intro a_62 c_63
        refine ⟨.inr (.nil), ?_⟩
        refine anyS_take (i := 15) rfl (by kernel_rfl) (by kernel_rfl) (by kernel_rfl) (by kernel_rfl) (Yq.of (v := .pointer (some ⟨wb, 0, none⟩)) (y_nilP rfl) rfl) (.nil) ?_
        refine anyS_take (i := 16) rfl (by kernel_rfl) (by kernel_rfl) (by kernel_rfl) (by kernel_rfl) (Yq.of (v := .pointer (some ⟨wb, 1, none⟩)) (y_fieldAddr (o' := 1) rfl Try.underlying136 rfl Try.sizeOf134 (by decide) rfl) rfl) (.nil) ?_
        refine anyS_all (rs := [17]) (by kernel_rfl) (by simp) ?_
        intro i hi; obtain rfl := List.mem_singleton.1 hi; clear hi
        refine opS_0 rfl rfl ?_
        refine e_store (vs := [.slice a_62 ((bs ++ [(us.getD (atI us.length i) default)]).length) c_63]) (l' := [.slice ua us.length uc, .slice a_62 ((bs ++ [(us.getD (atI us.length i) default)]).length) c_63]) rfl rfl rfl rfl Try.sizeOf134 (.t (.t .h)) (Nat.le_of_ble_eq_true rfl) rfl ?_
        refine ⟨.inr (.nil), ?_⟩
        refine anyS_done (by kernel_rfl) ?_
        refine thenS_n ?_
        refine wpS_seq ?_
        refine wpS_region ?_
        refine s_y (v := .pointer (some ⟨wb, 0, none⟩)) (y_move rfl) rfl ?_
        refine s_y (v := .pointer (some ⟨wb, 0, none⟩)) (y_move rfl) rfl ?_
        refine s_y (v := .pointer (some ⟨wb, 0, none⟩)) (y_nilP rfl) rfl ?_
        refine s_y (v := .pointer (some ⟨wb, 0, none⟩)) (y_fieldAddr (o' := 0) rfl Try.underlying136 rfl Try.sizeOf134 (by decide) rfl) rfl ?_
        refine s_y (v := .slice ua us.length uc) (y_load1 rfl Try.isAgg134 (own1 .h rfl)) rfl ?_
        refine s_y (v := .int .i64 ((((atI us.length i) : Nat) : Int))) (y_move rfl) rfl ?_
        refine s_e rfl ?_
        refine e_call (f := 196) (args := #[.slice ua us.length uc, .int .i64 ((((atI us.length i) : Nat) : Int))]) (X := Option Addr × Nat) (A := []) (M := [cel wb 136 [.slice ua us.length uc, .slice a_62 ((bs ++ [(us.getD (atI us.length i) default)]).length) c_63], osl a_62 c_63 ((bs ++ [(us.getD (atI us.length i) default)]).length) 2 231 ((bs ++ [(us.getD (atI us.length i) default)]).flatMap letV), cel b_61 231 [.int .i64 ((us.getD (atI us.length i) default).to), .slice ((us.getD (atI us.length i) default).a) ((us.getD (atI us.length i) default).n) ((us.getD (atI us.length i) default).c)], osl ua uc us.length 2 231 (us.flatMap letV), osl ba bc bs.length 2 231 (bs.flatMap letV), famb (us ++ bs)]) (V := slV (cutL us (atI us.length i))) (A' := fun x => [slR letV 2 231 (cutL us (atI us.length i)) x]) (C := fun x => (cutL us (atI us.length i)).length ≤ x.2) Try.call196 (ev2 rfl rfl) (.p .h (.p .h (.p .h (.p .h (.p .h (.p .h .nil)))))) (fun w hs => (rcut_c ua us.length uc us (atI us.length i) w rfl (oslR (.t (.t (.t .h))) w hs) (by omega) (by omega) (by omega)).cap) ?_
        rintro ⟨a_64, c_65⟩ hc66; replace hc66 : (cutL us (atI us.length i)).length ≤ c_65 := hc66
        refine s_y (v := .pointer (some ⟨wb, 0, none⟩)) (y_nilP rfl) rfl ?_
        refine s_y (v := .pointer (some ⟨wb, 0, none⟩)) (y_fieldAddr (o' := 0) rfl Try.underlying136 rfl Try.sizeOf134 (by decide) rfl) rfl ?_
        refine s_e0 ?_
        refine e_store (vs := [.slice a_64 ((cutL us (atI us.length i)).length) c_65]) (l' := [.slice a_64 ((cutL us (atI us.length i)).length) c_65, .slice a_62 ((bs ++ [(us.getD (atI us.length i) default)]).length) c_63]) rfl rfl rfl rfl Try.sizeOf134 (.t .h) (Nat.le_of_ble_eq_true rfl) rfl ?_
        refine wpL_nil ?_
        refine thenS_n ?_
        refine wpS_seq ?_
        refine wpS_region ?_
        refine s_y (v := .bool true) (y_assign rfl) rfl ?_
        refine wpL_nil ?_
        refine thenS_n ?_
        refine wpS_ret ?_
        refine fin1 (M := [cel wb 136 [.slice a_64 ((cutL us (atI us.length i)).length) c_65, .slice a_62 ((bs ++ [(us.getD (atI us.length i) default)]).length) c_63], osl a_64 c_65 ((cutL us (atI us.length i)).length) 2 231 ((cutL us (atI us.length i)).flatMap letV), osl a_62 c_63 ((bs ++ [(us.getD (atI us.length i) default)]).length) 2 231 ((bs ++ [(us.getD (atI us.length i) default)]).flatMap letV), famb ((cutL us (atI us.length i)) ++ (bs ++ [(us.getD (atI us.length i) default)]))]) (v := .bool true) (.inr rfl) (.p .h (.p .h (.p .h (.w (.t (.t (.t .h))) (famb_sub (dl_sub (atI_lt i (by omega)))) .nil)))) Try.results111 rfl ?_
        exact fun w' hs => ⟨((a_64, c_65), (a_62, c_63)), (congrArg (fun b : Bool => Ending.returned (.bool b)) (show _ = decide (0 < us.length) from (by first | exact (decide_eq_true (by omega)).symm | rfl))), by rw [show (dlU us i) = (cutL us (atI us.length i)) from (by unfold dlU; rw [if_neg (by omega)])]; rw [show (dlB us bs i) = (bs ++ [(us.getD (atI us.length i) default)]) from (by unfold dlB; rw [if_neg (by omega)])]; exact hs⟩
      · -- number 11 first
        refine opS_0 rfl rfl ?_
        refine OpE.y (v := .pointer (some ⟨aB ua, aO ua + (atI us.length i) * 2, none⟩)) (y_idx (o := (atI us.length i) * 2) rfl rfl Try.underlying134 Try.sizeOf231 (oslR (.t .h)) (fl_len letV_len _) (by decide) (by omega) (by omega) (by omega)) ?_
        refine ⟨.inr (.nil), ?_⟩
        refine anyS_all (rs := [5, 12]) (by kernel_rfl) (by simp) ?_
        intro i hi68; simp only [List.mem_cons, List.not_mem_nil, or_false] at hi68; rcases hi68 with rfl | rfl
        · -- number 5 first
          refine opS_0 rfl rfl ?_
          refine OpE.ent (fun w hs => SH.nil0 (sz := 2) (t := 231) w hs) ?_
          refine e_appendL (enc := letV) (xs := ([] : List Let)) (ns := (bs : List Let)) (zs := bs) (bytes := 32) letV_len letV_one Try.underlying134 (i := Try.t231) rfl rfl rfl rfl rfl (by decide) rfl rfl (by first | rfl | omega) (by first | rfl | omega) .h (oslR (.t (.t (.t .h)))) (List.nil_append _) (by omega) (by omega) ?_
          intro a_70 c_71
          refine ⟨.inr (.nil), ?_⟩
          refine anyS_all (rs := [12]) (by kernel_rfl) (by simp) ?_
          intro i hi; obtain rfl := List.mem_singleton.1 hi; clear hi
          refine opS_0 rfl rfl ?_
          refine OpE.y (v := .agg #[.int .i64 ((us.getD (atI us.length i) default).to), .slice ((us.getD (atI us.length i) default).a) ((us.getD (atI us.length i) default).n) ((us.getD (atI us.length i) default).c)]) (y_loadN (vs := letV (us.getD (atI us.length i) default)) rfl Try.isAgg231 Try.sizeOf231 (rdN (oslR (.t (.t .h))) (fl_getN letV_len us (atI us.length i) (by first | omega | (simp only [List.length_set, List.length_take, List.length_drop]; done) | (simp only [List.length_set, List.length_take, List.length_drop]; omega))))) ?_
          refine ⟨.inr (.nil), ?_⟩
          refine anyS_all (rs := [13]) (by kernel_rfl) (by simp) ?_
          intro i hi; obtain rfl := List.mem_singleton.1 hi; clear hi
          refine opS_0 rfl rfl ?_
          refine e_bsliceL (e := 231) (m := [(0, .agg #[.int .i64 ((us.getD (atI us.length i) default).to), .slice ((us.getD (atI us.length i) default).a) ((us.getD (atI us.length i) default).n) ((us.getD (atI us.length i) default).c)])]) (l := [.int .i64 ((us.getD (atI us.length i) default).to), .slice ((us.getD (atI us.length i) default).a) ((us.getD (atI us.length i) default).n) ((us.getD (atI us.length i) default).c)]) (evc rfl evn) (fun w => by kernel_rfl) ?_
          intro b_72
          refine ⟨.inr (.nil), ?_⟩
          refine anyS_all (rs := [14]) (by kernel_rfl) (by simp) ?_
          intro i hi; obtain rfl := List.mem_singleton.1 hi; clear hi
          refine opS_0 rfl rfl ?_
          refine e_appendL (enc := letV) (xs := (bs : List Let)) (ns := ([(us.getD (atI us.length i) default)] : List Let)) (zs := (bs ++ [(us.getD (atI us.length i) default)])) (bytes := 32) letV_len letV_one Try.underlying134 (i := Try.t231) rfl rfl rfl rfl rfl (by decide) rfl rfl (by first | rfl | omega) (by first | rfl | omega) (.t .h) (fun w hs => celR .h w hs) (by first | rfl | simp) (by (try simp only [List.length_append, List.length_cons, List.length_nil] at *); omega) (by (try simp only [List.length_append, List.length_cons, List.length_nil] at *); omega) ?_
          intro a_73 c_74
          refine ⟨.inr (.nil), ?_⟩
          refine anyS_take (i := 15) rfl (by kernel_rfl) (by kernel_rfl) (by kernel_rfl) (by kernel_rfl) (Yq.of (v := .pointer (some ⟨wb, 0, none⟩)) (y_nilP rfl) rfl) (.nil) ?_
          refine anyS_take (i := 16) rfl (by kernel_rfl) (by kernel_rfl) (by kernel_rfl) (by kernel_rfl) (Yq.of (v := .pointer (some ⟨wb, 1, none⟩)) (y_fieldAddr (o' := 1) rfl Try.underlying136 rfl Try.sizeOf134 (by decide) rfl) rfl) (.nil) ?_
          refine anyS_all (rs := [17]) (by kernel_rfl) (by simp) ?_
          intro i hi; obtain rfl := List.mem_singleton.1 hi; clear hi
          refine opS_0 rfl rfl ?_
          refine e_store (vs := [.slice a_73 ((bs ++ [(us.getD (atI us.length i) default)]).length) c_74]) (l' := [.slice ua us.length uc, .slice a_73 ((bs ++ [(us.getD (atI us.length i) default)]).length) c_74]) rfl rfl rfl rfl Try.sizeOf134 (.t (.t .h)) (Nat.le_of_ble_eq_true rfl) rfl ?_
          refine ⟨.inr (.nil), ?_⟩
          refine anyS_done (by kernel_rfl) ?_
          refine thenS_n ?_
          refine wpS_seq ?_
          refine wpS_region ?_
          refine s_y (v := .pointer (some ⟨wb, 0, none⟩)) (y_move rfl) rfl ?_
          refine s_y (v := .pointer (some ⟨wb, 0, none⟩)) (y_move rfl) rfl ?_
          refine s_y (v := .pointer (some ⟨wb, 0, none⟩)) (y_nilP rfl) rfl ?_
          refine s_y (v := .pointer (some ⟨wb, 0, none⟩)) (y_fieldAddr (o' := 0) rfl Try.underlying136 rfl Try.sizeOf134 (by decide) rfl) rfl ?_
          refine s_y (v := .slice ua us.length uc) (y_load1 rfl Try.isAgg134 (own1 .h rfl)) rfl ?_
          refine s_y (v := .int .i64 ((((atI us.length i) : Nat) : Int))) (y_move rfl) rfl ?_
          refine s_e rfl ?_
          refine e_call (f := 196) (args := #[.slice ua us.length uc, .int .i64 ((((atI us.length i) : Nat) : Int))]) (X := Option Addr × Nat) (A := []) (M := [cel wb 136 [.slice ua us.length uc, .slice a_73 ((bs ++ [(us.getD (atI us.length i) default)]).length) c_74], osl a_73 c_74 ((bs ++ [(us.getD (atI us.length i) default)]).length) 2 231 ((bs ++ [(us.getD (atI us.length i) default)]).flatMap letV), cel b_72 231 [.int .i64 ((us.getD (atI us.length i) default).to), .slice ((us.getD (atI us.length i) default).a) ((us.getD (atI us.length i) default).n) ((us.getD (atI us.length i) default).c)], osl ua uc us.length 2 231 (us.flatMap letV), osl ba bc bs.length 2 231 (bs.flatMap letV), famb (us ++ bs)]) (V := slV (cutL us (atI us.length i))) (A' := fun x => [slR letV 2 231 (cutL us (atI us.length i)) x]) (C := fun x => (cutL us (atI us.length i)).length ≤ x.2) Try.call196 (ev2 rfl rfl) (.p .h (.p .h (.p .h (.p .h (.p .h (.p .h .nil)))))) (fun w hs => (rcut_c ua us.length uc us (atI us.length i) w rfl (oslR (.t (.t (.t .h))) w hs) (by omega) (by omega) (by omega)).cap) ?_
          rintro ⟨a_75, c_76⟩ hc77; replace hc77 : (cutL us (atI us.length i)).length ≤ c_76 := hc77
          refine s_y (v := .pointer (some ⟨wb, 0, none⟩)) (y_nilP rfl) rfl ?_
          refine s_y (v := .pointer (some ⟨wb, 0, none⟩)) (y_fieldAddr (o' := 0) rfl Try.underlying136 rfl Try.sizeOf134 (by decide) rfl) rfl ?_
          refine s_e0 ?_
          refine e_store (vs := [.slice a_75 ((cutL us (atI us.length i)).length) c_76]) (l' := [.slice a_75 ((cutL us (atI us.length i)).length) c_76, .slice a_73 ((bs ++ [(us.getD (atI us.length i) default)]).length) c_74]) rfl rfl rfl rfl Try.sizeOf134 (.t .h) (Nat.le_of_ble_eq_true rfl) rfl ?_
          refine wpL_nil ?_
          refine thenS_n ?_
          refine wpS_seq ?_
          refine wpS_region ?_
          refine s_y (v := .bool true) (y_assign rfl) rfl ?_
          refine wpL_nil ?_
          refine thenS_n ?_
          refine wpS_ret ?_
          refine fin1 (M := [cel wb 136 [.slice a_75 ((cutL us (atI us.length i)).length) c_76, .slice a_73 ((bs ++ [(us.getD (atI us.length i) default)]).length) c_74], osl a_75 c_76 ((cutL us (atI us.length i)).length) 2 231 ((cutL us (atI us.length i)).flatMap letV), osl a_73 c_74 ((bs ++ [(us.getD (atI us.length i) default)]).length) 2 231 ((bs ++ [(us.getD (atI us.length i) default)]).flatMap letV), famb ((cutL us (atI us.length i)) ++ (bs ++ [(us.getD (atI us.length i) default)]))]) (v := .bool true) (.inr rfl) (.p .h (.p .h (.p .h (.w (.t (.t (.t .h))) (famb_sub (dl_sub (atI_lt i (by omega)))) .nil)))) Try.results111 rfl ?_
          exact fun w' hs => ⟨((a_75, c_76), (a_73, c_74)), (congrArg (fun b : Bool => Ending.returned (.bool b)) (show _ = decide (0 < us.length) from (by first | exact (decide_eq_true (by omega)).symm | rfl))), by rw [show (dlU us i) = (cutL us (atI us.length i)) from (by unfold dlU; rw [if_neg (by omega)])]; rw [show (dlB us bs i) = (bs ++ [(us.getD (atI us.length i) default)]) from (by unfold dlB; rw [if_neg (by omega)])]; exact hs⟩
        · -- number 12 first
          refine opS_0 rfl rfl ?_
          refine OpE.y (v := .agg #[.int .i64 ((us.getD (atI us.length i) default).to), .slice ((us.getD (atI us.length i) default).a) ((us.getD (atI us.length i) default).n) ((us.getD (atI us.length i) default).c)]) (y_loadN (vs := letV (us.getD (atI us.length i) default)) rfl Try.isAgg231 Try.sizeOf231 (rdN (oslR (.t .h)) (fl_getN letV_len us (atI us.length i) (by first | omega | (simp only [List.length_set, List.length_take, List.length_drop]; done) | (simp only [List.length_set, List.length_take, List.length_drop]; omega))))) ?_
          refine ⟨.inr (.nil), ?_⟩
          refine anyS_all (rs := [5, 13]) (by kernel_rfl) (by simp) ?_
          intro i hi79; simp only [List.mem_cons, List.not_mem_nil, or_false] at hi79; rcases hi79 with rfl | rfl
          · -- number 5 first
            refine opS_0 rfl rfl ?_
            refine OpE.ent (fun w hs => SH.nil0 (sz := 2) (t := 231) w hs) ?_
            refine e_appendL (enc := letV) (xs := ([] : List Let)) (ns := (bs : List Let)) (zs := bs) (bytes := 32) letV_len letV_one Try.underlying134 (i := Try.t231) rfl rfl rfl rfl rfl (by decide) rfl rfl (by first | rfl | omega) (by first | rfl | omega) .h (oslR (.t (.t (.t .h)))) (List.nil_append _) (by omega) (by omega) ?_
            intro a_81 c_82
            refine ⟨.inr (.nil), ?_⟩
            refine anyS_all (rs := [13]) (by kernel_rfl) (by simp) ?_
            intro i hi; obtain rfl := List.mem_singleton.1 hi; clear hi
            refine opS_0 rfl rfl ?_
            refine e_bsliceL (e := 231) (m := [(0, .agg #[.int .i64 ((us.getD (atI us.length i) default).to), .slice ((us.getD (atI us.length i) default).a) ((us.getD (atI us.length i) default).n) ((us.getD (atI us.length i) default).c)])]) (l := [.int .i64 ((us.getD (atI us.length i) default).to), .slice ((us.getD (atI us.length i) default).a) ((us.getD (atI us.length i) default).n) ((us.getD (atI us.length i) default).c)]) (evc rfl evn) (fun w => by kernel_rfl) ?_
            intro b_83
            refine ⟨.inr (.nil), ?_⟩
            refine anyS_all (rs := [14]) (by kernel_rfl) (by simp) ?_
            intro i hi; obtain rfl := List.mem_singleton.1 hi; clear hi
            refine opS_0 rfl rfl ?_
            refine e_appendL (enc := letV) (xs := (bs : List Let)) (ns := ([(us.getD (atI us.length i) default)] : List Let)) (zs := (bs ++ [(us.getD (atI us.length i) default)])) (bytes := 32) letV_len letV_one Try.underlying134 (i := Try.t231) rfl rfl rfl rfl rfl (by decide) rfl rfl (by first | rfl | omega) (by first | rfl | omega) (.t .h) (fun w hs => celR .h w hs) (by first | rfl | simp) (by (try simp only [List.length_append, List.length_cons, List.length_nil] at *); omega) (by (try simp only [List.length_append, List.length_cons, List.length_nil] at *); omega) ?_
            intro a_84 c_85
            refine ⟨.inr (.nil), ?_⟩
            refine anyS_take (i := 15) rfl (by kernel_rfl) (by kernel_rfl) (by kernel_rfl) (by kernel_rfl) (Yq.of (v := .pointer (some ⟨wb, 0, none⟩)) (y_nilP rfl) rfl) (.nil) ?_
            refine anyS_take (i := 16) rfl (by kernel_rfl) (by kernel_rfl) (by kernel_rfl) (by kernel_rfl) (Yq.of (v := .pointer (some ⟨wb, 1, none⟩)) (y_fieldAddr (o' := 1) rfl Try.underlying136 rfl Try.sizeOf134 (by decide) rfl) rfl) (.nil) ?_
            refine anyS_all (rs := [17]) (by kernel_rfl) (by simp) ?_
            intro i hi; obtain rfl := List.mem_singleton.1 hi; clear hi
            refine opS_0 rfl rfl ?_
            refine e_store (vs := [.slice a_84 ((bs ++ [(us.getD (atI us.length i) default)]).length) c_85]) (l' := [.slice ua us.length uc, .slice a_84 ((bs ++ [(us.getD (atI us.length i) default)]).length) c_85]) rfl rfl rfl rfl Try.sizeOf134 (.t (.t .h)) (Nat.le_of_ble_eq_true rfl) rfl ?_
            refine ⟨.inr (.nil), ?_⟩
            refine anyS_done (by kernel_rfl) ?_
            refine thenS_n ?_
            refine wpS_seq ?_
            refine wpS_region ?_
            refine s_y (v := .pointer (some ⟨wb, 0, none⟩)) (y_move rfl) rfl ?_
            refine s_y (v := .pointer (some ⟨wb, 0, none⟩)) (y_move rfl) rfl ?_
            refine s_y (v := .pointer (some ⟨wb, 0, none⟩)) (y_nilP rfl) rfl ?_
            refine s_y (v := .pointer (some ⟨wb, 0, none⟩)) (y_fieldAddr (o' := 0) rfl Try.underlying136 rfl Try.sizeOf134 (by decide) rfl) rfl ?_
            refine s_y (v := .slice ua us.length uc) (y_load1 rfl Try.isAgg134 (own1 .h rfl)) rfl ?_
            refine s_y (v := .int .i64 ((((atI us.length i) : Nat) : Int))) (y_move rfl) rfl ?_
            refine s_e rfl ?_
            refine e_call (f := 196) (args := #[.slice ua us.length uc, .int .i64 ((((atI us.length i) : Nat) : Int))]) (X := Option Addr × Nat) (A := []) (M := [cel wb 136 [.slice ua us.length uc, .slice a_84 ((bs ++ [(us.getD (atI us.length i) default)]).length) c_85], osl a_84 c_85 ((bs ++ [(us.getD (atI us.length i) default)]).length) 2 231 ((bs ++ [(us.getD (atI us.length i) default)]).flatMap letV), cel b_83 231 [.int .i64 ((us.getD (atI us.length i) default).to), .slice ((us.getD (atI us.length i) default).a) ((us.getD (atI us.length i) default).n) ((us.getD (atI us.length i) default).c)], osl ua uc us.length 2 231 (us.flatMap letV), osl ba bc bs.length 2 231 (bs.flatMap letV), famb (us ++ bs)]) (V := slV (cutL us (atI us.length i))) (A' := fun x => [slR letV 2 231 (cutL us (atI us.length i)) x]) (C := fun x => (cutL us (atI us.length i)).length ≤ x.2) Try.call196 (ev2 rfl rfl) (.p .h (.p .h (.p .h (.p .h (.p .h (.p .h .nil)))))) (fun w hs => (rcut_c ua us.length uc us (atI us.length i) w rfl (oslR (.t (.t (.t .h))) w hs) (by omega) (by omega) (by omega)).cap) ?_
            rintro ⟨a_86, c_87⟩ hc88; replace hc88 : (cutL us (atI us.length i)).length ≤ c_87 := hc88
            refine s_y (v := .pointer (some ⟨wb, 0, none⟩)) (y_nilP rfl) rfl ?_
            refine s_y (v := .pointer (some ⟨wb, 0, none⟩)) (y_fieldAddr (o' := 0) rfl Try.underlying136 rfl Try.sizeOf134 (by decide) rfl) rfl ?_
            refine s_e0 ?_
            refine e_store (vs := [.slice a_86 ((cutL us (atI us.length i)).length) c_87]) (l' := [.slice a_86 ((cutL us (atI us.length i)).length) c_87, .slice a_84 ((bs ++ [(us.getD (atI us.length i) default)]).length) c_85]) rfl rfl rfl rfl Try.sizeOf134 (.t .h) (Nat.le_of_ble_eq_true rfl) rfl ?_
            refine wpL_nil ?_
            refine thenS_n ?_
            refine wpS_seq ?_
            refine wpS_region ?_
            refine s_y (v := .bool true) (y_assign rfl) rfl ?_
            refine wpL_nil ?_
            refine thenS_n ?_
            refine wpS_ret ?_
            refine fin1 (M := [cel wb 136 [.slice a_86 ((cutL us (atI us.length i)).length) c_87, .slice a_84 ((bs ++ [(us.getD (atI us.length i) default)]).length) c_85], osl a_86 c_87 ((cutL us (atI us.length i)).length) 2 231 ((cutL us (atI us.length i)).flatMap letV), osl a_84 c_85 ((bs ++ [(us.getD (atI us.length i) default)]).length) 2 231 ((bs ++ [(us.getD (atI us.length i) default)]).flatMap letV), famb ((cutL us (atI us.length i)) ++ (bs ++ [(us.getD (atI us.length i) default)]))]) (v := .bool true) (.inr rfl) (.p .h (.p .h (.p .h (.w (.t (.t (.t .h))) (famb_sub (dl_sub (atI_lt i (by omega)))) .nil)))) Try.results111 rfl ?_
            exact fun w' hs => ⟨((a_86, c_87), (a_84, c_85)), (congrArg (fun b : Bool => Ending.returned (.bool b)) (show _ = decide (0 < us.length) from (by first | exact (decide_eq_true (by omega)).symm | rfl))), by rw [show (dlU us i) = (cutL us (atI us.length i)) from (by unfold dlU; rw [if_neg (by omega)])]; rw [show (dlB us bs i) = (bs ++ [(us.getD (atI us.length i) default)]) from (by unfold dlB; rw [if_neg (by omega)])]; exact hs⟩
          · -- number 13 first
            refine opS_0 rfl rfl ?_
            refine e_bsliceL (e := 231) (m := [(0, .agg #[.int .i64 ((us.getD (atI us.length i) default).to), .slice ((us.getD (atI us.length i) default).a) ((us.getD (atI us.length i) default).n) ((us.getD (atI us.length i) default).c)])]) (l := [.int .i64 ((us.getD (atI us.length i) default).to), .slice ((us.getD (atI us.length i) default).a) ((us.getD (atI us.length i) default).n) ((us.getD (atI us.length i) default).c)]) (evc rfl evn) (fun w => by kernel_rfl) ?_
            intro b_90
            refine ⟨.inr (.nil), ?_⟩
            refine anyS_all (rs := [5]) (by kernel_rfl) (by simp) ?_
            intro i hi; obtain rfl := List.mem_singleton.1 hi; clear hi
            refine opS_0 rfl rfl ?_
            refine OpE.ent (fun w hs => SH.nil0 (sz := 2) (t := 231) w hs) ?_
            refine e_appendL (enc := letV) (xs := ([] : List Let)) (ns := (bs : List Let)) (zs := bs) (bytes := 32) letV_len letV_one Try.underlying134 (i := Try.t231) rfl rfl rfl rfl rfl (by decide) rfl rfl (by first | rfl | omega) (by first | rfl | omega) .h (oslR (.t (.t (.t (.t .h))))) (List.nil_append _) (by omega) (by omega) ?_
            intro a_92 c_93
            refine ⟨.inr (.nil), ?_⟩
            refine anyS_all (rs := [14]) (by kernel_rfl) (by simp) ?_
            intro i hi; obtain rfl := List.mem_singleton.1 hi; clear hi
            refine opS_0 rfl rfl ?_
            refine e_appendL (enc := letV) (xs := (bs : List Let)) (ns := ([(us.getD (atI us.length i) default)] : List Let)) (zs := (bs ++ [(us.getD (atI us.length i) default)])) (bytes := 32) letV_len letV_one Try.underlying134 (i := Try.t231) rfl rfl rfl rfl rfl (by decide) rfl rfl (by first | rfl | omega) (by first | rfl | omega) .h (fun w hs => celR (.t .h) w hs) (by first | rfl | simp) (by (try simp only [List.length_append, List.length_cons, List.length_nil] at *); omega) (by (try simp only [List.length_append, List.length_cons, List.length_nil] at *); omega) ?_
            intro a_94 c_95
            refine ⟨.inr (.nil), ?_⟩
            refine anyS_take (i := 15) rfl (by kernel_rfl) (by kernel_rfl) (by kernel_rfl) (by kernel_rfl) (Yq.of (v := .pointer (some ⟨wb, 0, none⟩)) (y_nilP rfl) rfl) (.nil) ?_
            refine anyS_take (i := 16) rfl (by kernel_rfl) (by kernel_rfl) (by kernel_rfl) (by kernel_rfl) (Yq.of (v := .pointer (some ⟨wb, 1, none⟩)) (y_fieldAddr (o' := 1) rfl Try.underlying136 rfl Try.sizeOf134 (by decide) rfl) rfl) (.nil) ?_
            refine anyS_all (rs := [17]) (by kernel_rfl) (by simp) ?_
            intro i hi; obtain rfl := List.mem_singleton.1 hi; clear hi
            refine opS_0 rfl rfl ?_
            refine e_store (vs := [.slice a_94 ((bs ++ [(us.getD (atI us.length i) default)]).length) c_95]) (l' := [.slice ua us.length uc, .slice a_94 ((bs ++ [(us.getD (atI us.length i) default)]).length) c_95]) rfl rfl rfl rfl Try.sizeOf134 (.t (.t .h)) (Nat.le_of_ble_eq_true rfl) rfl ?_
            refine ⟨.inr (.nil), ?_⟩
            refine anyS_done (by kernel_rfl) ?_
            refine thenS_n ?_
            refine wpS_seq ?_
            refine wpS_region ?_
            refine s_y (v := .pointer (some ⟨wb, 0, none⟩)) (y_move rfl) rfl ?_
            refine s_y (v := .pointer (some ⟨wb, 0, none⟩)) (y_move rfl) rfl ?_
            refine s_y (v := .pointer (some ⟨wb, 0, none⟩)) (y_nilP rfl) rfl ?_
            refine s_y (v := .pointer (some ⟨wb, 0, none⟩)) (y_fieldAddr (o' := 0) rfl Try.underlying136 rfl Try.sizeOf134 (by decide) rfl) rfl ?_
            refine s_y (v := .slice ua us.length uc) (y_load1 rfl Try.isAgg134 (own1 .h rfl)) rfl ?_
            refine s_y (v := .int .i64 ((((atI us.length i) : Nat) : Int))) (y_move rfl) rfl ?_
            refine s_e rfl ?_
            refine e_call (f := 196) (args := #[.slice ua us.length uc, .int .i64 ((((atI us.length i) : Nat) : Int))]) (X := Option Addr × Nat) (A := []) (M := [cel wb 136 [.slice ua us.length uc, .slice a_94 ((bs ++ [(us.getD (atI us.length i) default)]).length) c_95], osl a_94 c_95 ((bs ++ [(us.getD (atI us.length i) default)]).length) 2 231 ((bs ++ [(us.getD (atI us.length i) default)]).flatMap letV), cel b_90 231 [.int .i64 ((us.getD (atI us.length i) default).to), .slice ((us.getD (atI us.length i) default).a) ((us.getD (atI us.length i) default).n) ((us.getD (atI us.length i) default).c)], osl ua uc us.length 2 231 (us.flatMap letV), osl ba bc bs.length 2 231 (bs.flatMap letV), famb (us ++ bs)]) (V := slV (cutL us (atI us.length i))) (A' := fun x => [slR letV 2 231 (cutL us (atI us.length i)) x]) (C := fun x => (cutL us (atI us.length i)).length ≤ x.2) Try.call196 (ev2 rfl rfl) (.p .h (.p .h (.p .h (.p .h (.p .h (.p .h .nil)))))) (fun w hs => (rcut_c ua us.length uc us (atI us.length i) w rfl (oslR (.t (.t (.t .h))) w hs) (by omega) (by omega) (by omega)).cap) ?_
            rintro ⟨a_96, c_97⟩ hc98; replace hc98 : (cutL us (atI us.length i)).length ≤ c_97 := hc98
            refine s_y (v := .pointer (some ⟨wb, 0, none⟩)) (y_nilP rfl) rfl ?_
            refine s_y (v := .pointer (some ⟨wb, 0, none⟩)) (y_fieldAddr (o' := 0) rfl Try.underlying136 rfl Try.sizeOf134 (by decide) rfl) rfl ?_
            refine s_e0 ?_
            refine e_store (vs := [.slice a_96 ((cutL us (atI us.length i)).length) c_97]) (l' := [.slice a_96 ((cutL us (atI us.length i)).length) c_97, .slice a_94 ((bs ++ [(us.getD (atI us.length i) default)]).length) c_95]) rfl rfl rfl rfl Try.sizeOf134 (.t .h) (Nat.le_of_ble_eq_true rfl) rfl ?_
            refine wpL_nil ?_
            refine thenS_n ?_
            refine wpS_seq ?_
            refine wpS_region ?_
            refine s_y (v := .bool true) (y_assign rfl) rfl ?_
            refine wpL_nil ?_
            refine thenS_n ?_
            refine wpS_ret ?_
            refine fin1 (M := [cel wb 136 [.slice a_96 ((cutL us (atI us.length i)).length) c_97, .slice a_94 ((bs ++ [(us.getD (atI us.length i) default)]).length) c_95], osl a_96 c_97 ((cutL us (atI us.length i)).length) 2 231 ((cutL us (atI us.length i)).flatMap letV), osl a_94 c_95 ((bs ++ [(us.getD (atI us.length i) default)]).length) 2 231 ((bs ++ [(us.getD (atI us.length i) default)]).flatMap letV), famb ((cutL us (atI us.length i)) ++ (bs ++ [(us.getD (atI us.length i) default)]))]) (v := .bool true) (.inr rfl) (.p .h (.p .h (.p .h (.w (.t (.t (.t .h))) (famb_sub (dl_sub (atI_lt i (by omega)))) .nil)))) Try.results111 rfl ?_
            exact fun w' hs => ⟨((a_96, c_97), (a_94, c_95)), (congrArg (fun b : Bool => Ending.returned (.bool b)) (show _ = decide (0 < us.length) from (by first | exact (decide_eq_true (by omega)).symm | rfl))), by rw [show (dlU us i) = (cutL us (atI us.length i)) from (by unfold dlU; rw [if_neg (by omega)])]; rw [show (dlB us bs i) = (bs ++ [(us.getD (atI us.length i) default)]) from (by unfold dlB; rw [if_neg (by omega)])]; exact hs⟩
    · -- number 11 first
      refine opS_0 rfl rfl ?_
      refine OpE.y (v := .pointer (some ⟨aB ua, aO ua + (atI us.length i) * 2, none⟩)) (y_idx (o := (atI us.length i) * 2) rfl rfl Try.underlying134 Try.sizeOf231 (oslR (.t .h)) (fl_len letV_len _) (by decide) (by omega) (by omega) (by omega)) ?_
      refine ⟨.inr (.nil), ?_⟩
      refine anyS_all (rs := [4, 12]) (by kernel_rfl) (by simp) ?_
      intro i hi100; simp only [List.mem_cons, List.not_mem_nil, or_false] at hi100; rcases hi100 with rfl | rfl
      · -- number 4 first
        refine opS_0 rfl rfl ?_
        refine OpE.y (v := .slice ba bs.length bc) (y_load1 rfl Try.isAgg134 (own1 .h rfl)) ?_
        refine ⟨.inr (.nil), ?_⟩
        refine anyS_all (rs := [5, 12]) (by kernel_rfl) (by simp) ?_
        intro i hi101; simp only [List.mem_cons, List.not_mem_nil, or_false] at hi101; rcases hi101 with rfl | rfl
        · -- number 5 first
          refine opS_0 rfl rfl ?_
          refine OpE.ent (fun w hs => SH.nil0 (sz := 2) (t := 231) w hs) ?_
          refine e_appendL (enc := letV) (xs := ([] : List Let)) (ns := (bs : List Let)) (zs := bs) (bytes := 32) letV_len letV_one Try.underlying134 (i := Try.t231) rfl rfl rfl rfl rfl (by decide) rfl rfl (by first | rfl | omega) (by first | rfl | omega) .h (oslR (.t (.t (.t .h)))) (List.nil_append _) (by omega) (by omega) ?_
          intro a_103 c_104
          refine ⟨.inr (.nil), ?_⟩
          refine anyS_all (rs := [12]) (by kernel_rfl) (by simp) ?_
          intro i hi; obtain rfl := List.mem_singleton.1 hi; clear hi
          refine opS_0 rfl rfl ?_
          refine OpE.y (v := .agg #[.int .i64 ((us.getD (atI us.length i) default).to), .slice ((us.getD (atI us.length i) default).a) ((us.getD (atI us.length i) default).n) ((us.getD (atI us.length i) default).c)]) (y_loadN (vs := letV (us.getD (atI us.length i) default)) rfl Try.isAgg231 Try.sizeOf231 (rdN (oslR (.t (.t .h))) (fl_getN letV_len us (atI us.length i) (by first | omega | (simp only [List.length_set, List.length_take, List.length_drop]; done) | (simp only [List.length_set, List.length_take, List.length_drop]; omega))))) ?_
          refine ⟨.inr (.nil), ?_⟩
          refine anyS_all (rs := [13]) (by kernel_rfl) (by simp) ?_
          intro i hi; obtain rfl := List.mem_singleton.1 hi; clear hi
          refine opS_0 rfl rfl ?_
          refine e_bsliceL (e := 231) (m := [(0, .agg #[.int .i64 ((us.getD (atI us.length i) default).to), .slice ((us.getD (atI us.length i) default).a) ((us.getD (atI us.length i) default).n) ((us.getD (atI us.length i) default).c)])]) (l := [.int .i64 ((us.getD (atI us.length i) default).to), .slice ((us.getD (atI us.length i) default).a) ((us.getD (atI us.length i) default).n) ((us.getD (atI us.length i) default).c)]) (evc rfl evn) (fun w => by kernel_rfl) ?_
          intro b_105
          refine ⟨.inr (.nil), ?_⟩
          refine anyS_all (rs := [14]) (by kernel_rfl) (by simp) ?_
          intro i hi; obtain rfl := List.mem_singleton.1 hi; clear hi
          refine opS_0 rfl rfl ?_
          refine e_appendL (enc := letV) (xs := (bs : List Let)) (ns := ([(us.getD (atI us.length i) default)] : List Let)) (zs := (bs ++ [(us.getD (atI us.length i) default)])) (bytes := 32) letV_len letV_one Try.underlying134 (i := Try.t231) rfl rfl rfl rfl rfl (by decide) rfl rfl (by first | rfl | omega) (by first | rfl | omega) (.t .h) (fun w hs => celR .h w hs) (by first | rfl | simp) (by (try simp only [List.length_append, List.length_cons, List.length_nil] at *); omega) (by (try simp only [List.length_append, List.length_cons, List.length_nil] at *); omega) ?_
          intro a_106 c_107
          refine ⟨.inr (.nil), ?_⟩
          refine anyS_take (i := 15) rfl (by kernel_rfl) (by kernel_rfl) (by kernel_rfl) (by kernel_rfl) (Yq.of (v := .pointer (some ⟨wb, 0, none⟩)) (y_nilP rfl) rfl) (.nil) ?_
          refine anyS_take (i := 16) rfl (by kernel_rfl) (by kernel_rfl) (by kernel_rfl) (by kernel_rfl) (Yq.of (v := .pointer (some ⟨wb, 1, none⟩)) (y_fieldAddr (o' := 1) rfl Try.underlying136 rfl Try.sizeOf134 (by decide) rfl) rfl) (.nil) ?_
          refine anyS_all (rs := [17]) (by kernel_rfl) (by simp) ?_
          intro i hi; obtain rfl := List.mem_singleton.1 hi; clear hi
          refine opS_0 rfl rfl ?_
          refine e_store (vs := [.slice a_106 ((bs ++ [(us.getD (atI us.length i) default)]).length) c_107]) (l' := [.slice ua us.length uc, .slice a_106 ((bs ++ [(us.getD (atI us.length i) default)]).length) c_107]) rfl rfl rfl rfl Try.sizeOf134 (.t (.t .h)) (Nat.le_of_ble_eq_true rfl) rfl ?_
          refine ⟨.inr (.nil), ?_⟩
          refine anyS_done (by kernel_rfl) ?_
          refine thenS_n ?_
          refine wpS_seq ?_
          refine wpS_region ?_
          refine s_y (v := .pointer (some ⟨wb, 0, none⟩)) (y_move rfl) rfl ?_
          refine s_y (v := .pointer (some ⟨wb, 0, none⟩)) (y_move rfl) rfl ?_
          refine s_y (v := .pointer (some ⟨wb, 0, none⟩)) (y_nilP rfl) rfl ?_
          refine s_y (v := .pointer (some ⟨wb, 0, none⟩)) (y_fieldAddr (o' := 0) rfl Try.underlying136 rfl Try.sizeOf134 (by decide) rfl) rfl ?_
          refine s_y (v := .slice ua us.length uc) (y_load1 rfl Try.isAgg134 (own1 .h rfl)) rfl ?_
          refine s_y (v := .int .i64 ((((atI us.length i) : Nat) : Int))) (y_move rfl) rfl ?_
          refine s_e rfl ?_
          refine e_call (f := 196) (args := #[.slice ua us.length uc, .int .i64 ((((atI us.length i) : Nat) : Int))]) (X := Option Addr × Nat) (A := []) (M := [cel wb 136 [.slice ua us.length uc, .slice a_106 ((bs ++ [(us.getD (atI us.length i) default)]).length) c_107], osl a_106 c_107 ((bs ++ [(us.getD (atI us.length i) default)]).length) 2 231 ((bs ++ [(us.getD (atI us.length i) default)]).flatMap letV), cel b_105 231 [.int .i64 ((us.getD (atI us.length i) default).to), .slice ((us.getD (atI us.length i) default).a) ((us.getD (atI us.length i) default).n) ((us.getD (atI us.length i) default).c)], osl ua uc us.length 2 231 (us.flatMap letV), osl ba bc bs.length 2 231 (bs.flatMap letV), famb (us ++ bs)]) (V := slV (cutL us (atI us.length i))) (A' := fun x => [slR letV 2 231 (cutL us (atI us.length i)) x]) (C := fun x => (cutL us (atI us.length i)).length ≤ x.2) Try.call196 (ev2 rfl rfl) (.p .h (.p .h (.p .h (.p .h (.p .h (.p .h .nil)))))) (fun w hs => (rcut_c ua us.length uc us (atI us.length i) w rfl (oslR (.t (.t (.t .h))) w hs) (by omega) (by omega) (by omega)).cap) ?_
          rintro ⟨a_108, c_109⟩ hc110; replace hc110 : (cutL us (atI us.length i)).length ≤ c_109 := hc110
          refine s_y (v := .pointer (some ⟨wb, 0, none⟩)) (y_nilP rfl) rfl ?_
          refine s_y (v := .pointer (some ⟨wb, 0, none⟩)) (y_fieldAddr (o' := 0) rfl Try.underlying136 rfl Try.sizeOf134 (by decide) rfl) rfl ?_
          refine s_e0 ?_
          refine e_store (vs := [.slice a_108 ((cutL us (atI us.length i)).length) c_109]) (l' := [.slice a_108 ((cutL us (atI us.length i)).length) c_109, .slice a_106 ((bs ++ [(us.getD (atI us.length i) default)]).length) c_107]) rfl rfl rfl rfl Try.sizeOf134 (.t .h) (Nat.le_of_ble_eq_true rfl) rfl ?_
          refine wpL_nil ?_
          refine thenS_n ?_
          refine wpS_seq ?_
          refine wpS_region ?_
          refine s_y (v := .bool true) (y_assign rfl) rfl ?_
          refine wpL_nil ?_
          refine thenS_n ?_
          refine wpS_ret ?_
          refine fin1 (M := [cel wb 136 [.slice a_108 ((cutL us (atI us.length i)).length) c_109, .slice a_106 ((bs ++ [(us.getD (atI us.length i) default)]).length) c_107], osl a_108 c_109 ((cutL us (atI us.length i)).length) 2 231 ((cutL us (atI us.length i)).flatMap letV), osl a_106 c_107 ((bs ++ [(us.getD (atI us.length i) default)]).length) 2 231 ((bs ++ [(us.getD (atI us.length i) default)]).flatMap letV), famb ((cutL us (atI us.length i)) ++ (bs ++ [(us.getD (atI us.length i) default)]))]) (v := .bool true) (.inr rfl) (.p .h (.p .h (.p .h (.w (.t (.t (.t .h))) (famb_sub (dl_sub (atI_lt i (by omega)))) .nil)))) Try.results111 rfl ?_
          exact fun w' hs => ⟨((a_108, c_109), (a_106, c_107)), (congrArg (fun b : Bool => Ending.returned (.bool b)) (show _ = decide (0 < us.length) from (by first | exact (decide_eq_true (by omega)).symm | rfl))), by rw [show (dlU us i) = (cutL us (atI us.length i)) from (by unfold dlU; rw [if_neg (by omega)])]; rw [show (dlB us bs i) = (bs ++ [(us.getD (atI us.length i) default)]) from (by unfold dlB; rw [if_neg (by omega)])]; exact hs⟩
        · -- number 12 first
          refine opS_0 rfl rfl ?_
          refine OpE.y (v := .agg #[.int .i64 ((us.getD (atI us.length i) default).to), .slice ((us.getD (atI us.length i) default).a) ((us.getD (atI us.length i) default).n) ((us.getD (atI us.length i) default).c)]) (y_loadN (vs := letV (us.getD (atI us.length i) default)) rfl Try.isAgg231 Try.sizeOf231 (rdN (oslR (.t .h)) (fl_getN letV_len us (atI us.length i) (by first | omega | (simp only [List.length_set, List.length_take, List.length_drop]; done) | (simp only [List.length_set, List.length_take, List.length_drop]; omega))))) ?_
          refine ⟨.inr (.nil), ?_⟩
          refine anyS_all (rs := [5, 13]) (by kernel_rfl) (by simp) ?_
          intro i hi112; simp only [List.mem_cons, List.not_mem_nil, or_false] at hi112; rcases hi112 with rfl | rfl
          · -- number 5 first
            refine opS_0 rfl rfl ?_
            refine OpE.ent (fun w hs => SH.nil0 (sz := 2) (t := 231) w hs) ?_
            refine e_appendL (enc := letV) (xs := ([] : List Let)) (ns := (bs : List Let)) (zs := bs) (bytes := 32) letV_len letV_one Try.underlying134 (i := Try.t231) rfl rfl rfl rfl rfl (by decide) rfl rfl (by first | rfl | omega) (by first | rfl | omega) .h (oslR (.t (.t (.t .h)))) (List.nil_append _) (by omega) (by omega) ?_
            intro a_114 c_115
            refine ⟨.inr (.nil), ?_⟩
            refine anyS_all (rs := [13]) (by kernel_rfl) (by simp) ?_
            intro i hi; obtain rfl := List.mem_singleton.1 hi; clear hi
            refine opS_0 rfl rfl ?_
            refine e_bsliceL (e := 231) (m := [(0, .agg #[.int .i64 ((us.getD (atI us.length i) default).to), .slice ((us.getD (atI us.length i) default).a) ((us.getD (atI us.length i) default).n) ((us.getD (atI us.length i) default).c)])]) (l := [.int .i64 ((us.getD (atI us.length i) default).to), .slice ((us.getD (atI us.length i) default).a) ((us.getD (atI us.length i) default).n) ((us.getD (atI us.length i) default).c)]) (evc rfl evn) (fun w => by kernel_rfl) ?_
            intro b_116
            refine ⟨.inr (.nil), ?_⟩
            refine anyS_all (rs := [14]) (by kernel_rfl) (by simp) ?_
            intro i hi; obtain rfl := List.mem_singleton.1 hi; clear hi
            refine opS_0 rfl rfl ?_
            refine e_appendL (enc := letV) (xs := (bs : List Let)) (ns := ([(us.getD (atI us.length i) default)] : List Let)) (zs := (bs ++ [(us.getD (atI us.length i) default)])) (bytes := 32) letV_len letV_one Try.underlying134 (i := Try.t231) rfl rfl rfl rfl rfl (by decide) rfl rfl (by first | rfl | omega) (by first | rfl | omega) (.t .h) (fun w hs => celR .h w hs) (by first | rfl | simp) (by (try simp only [List.length_append, List.length_cons, List.length_nil] at *); omega) (by (try simp only [List.length_append, List.length_cons, List.length_nil] at *); omega) ?_
            intro a_117 c_118
            refine ⟨.inr (.nil), ?_⟩
            refine anyS_take (i := 15) rfl (by kernel_rfl) (by kernel_rfl) (by kernel_rfl) (by kernel_rfl) (Yq.of (v := .pointer (some ⟨wb, 0, none⟩)) (y_nilP rfl) rfl) (.nil) ?_
            refine anyS_take (i := 16) rfl (by kernel_rfl) (by kernel_rfl) (by kernel_rfl) (by kernel_rfl) (Yq.of (v := .pointer (some ⟨wb, 1, none⟩)) (y_fieldAddr (o' := 1) rfl Try.underlying136 rfl Try.sizeOf134 (by decide) rfl) rfl) (.nil) ?_
            refine anyS_all (rs := [17]) (by kernel_rfl) (by simp) ?_
            intro i hi; obtain rfl := List.mem_singleton.1 hi; clear hi
            refine opS_0 rfl rfl ?_
            refine e_store (vs := [.slice a_117 ((bs ++ [(us.getD (atI us.length i) default)]).length) c_118]) (l' := [.slice ua us.length uc, .slice a_117 ((bs ++ [(us.getD (atI us.length i) default)]).length) c_118]) rfl rfl rfl rfl Try.sizeOf134 (.t (.t .h)) (Nat.le_of_ble_eq_true rfl) rfl ?_
            refine ⟨.inr (.nil), ?_⟩
            refine anyS_done (by kernel_rfl) ?_
            refine thenS_n ?_
            refine wpS_seq ?_
            refine wpS_region ?_
            refine s_y (v := .pointer (some ⟨wb, 0, none⟩)) (y_move rfl) rfl ?_
            refine s_y (v := .pointer (some ⟨wb, 0, none⟩)) (y_move rfl) rfl ?_
            refine s_y (v := .pointer (some ⟨wb, 0, none⟩)) (y_nilP rfl) rfl ?_
            refine s_y (v := .pointer (some ⟨wb, 0, none⟩)) (y_fieldAddr (o' := 0) rfl Try.underlying136 rfl Try.sizeOf134 (by decide) rfl) rfl ?_
            refine s_y (v := .slice ua us.length uc) (y_load1 rfl Try.isAgg134 (own1 .h rfl)) rfl ?_
            refine s_y (v := .int .i64 ((((atI us.length i) : Nat) : Int))) (y_move rfl) rfl ?_
            refine s_e rfl ?_
            refine e_call (f := 196) (args := #[.slice ua us.length uc, .int .i64 ((((atI us.length i) : Nat) : Int))]) (X := Option Addr × Nat) (A := []) (M := [cel wb 136 [.slice ua us.length uc, .slice a_117 ((bs ++ [(us.getD (atI us.length i) default)]).length) c_118], osl a_117 c_118 ((bs ++ [(us.getD (atI us.length i) default)]).length) 2 231 ((bs ++ [(us.getD (atI us.length i) default)]).flatMap letV), cel b_116 231 [.int .i64 ((us.getD (atI us.length i) default).to), .slice ((us.getD (atI us.length i) default).a) ((us.getD (atI us.length i) default).n) ((us.getD (atI us.length i) default).c)], osl ua uc us.length 2 231 (us.flatMap letV), osl ba bc bs.length 2 231 (bs.flatMap letV), famb (us ++ bs)]) (V := slV (cutL us (atI us.length i))) (A' := fun x => [slR letV 2 231 (cutL us (atI us.length i)) x]) (C := fun x => (cutL us (atI us.length i)).length ≤ x.2) Try.call196 (ev2 rfl rfl) (.p .h (.p .h (.p .h (.p .h (.p .h (.p .h .nil)))))) (fun w hs => (rcut_c ua us.length uc us (atI us.length i) w rfl (oslR (.t (.t (.t .h))) w hs) (by omega) (by omega) (by omega)).cap) ?_
            rintro ⟨a_119, c_120⟩ hc121; replace hc121 : (cutL us (atI us.length i)).length ≤ c_120 := hc121
            refine s_y (v := .pointer (some ⟨wb, 0, none⟩)) (y_nilP rfl) rfl ?_
            refine s_y (v := .pointer (some ⟨wb, 0, none⟩)) (y_fieldAddr (o' := 0) rfl Try.underlying136 rfl Try.sizeOf134 (by decide) rfl) rfl ?_
            refine s_e0 ?_
            refine e_store (vs := [.slice a_119 ((cutL us (atI us.length i)).length) c_120]) (l' := [.slice a_119 ((cutL us (atI us.length i)).length) c_120, .slice a_117 ((bs ++ [(us.getD (atI us.length i) default)]).length) c_118]) rfl rfl rfl rfl Try.sizeOf134 (.t .h) (Nat.le_of_ble_eq_true rfl) rfl ?_
            refine wpL_nil ?_
            refine thenS_n ?_
            refine wpS_seq ?_
            refine wpS_region ?_
            refine s_y (v := .bool true) (y_assign rfl) rfl ?_
            refine wpL_nil ?_
            refine thenS_n ?_
            refine wpS_ret ?_
            refine fin1 (M := [cel wb 136 [.slice a_119 ((cutL us (atI us.length i)).length) c_120, .slice a_117 ((bs ++ [(us.getD (atI us.length i) default)]).length) c_118], osl a_119 c_120 ((cutL us (atI us.length i)).length) 2 231 ((cutL us (atI us.length i)).flatMap letV), osl a_117 c_118 ((bs ++ [(us.getD (atI us.length i) default)]).length) 2 231 ((bs ++ [(us.getD (atI us.length i) default)]).flatMap letV), famb ((cutL us (atI us.length i)) ++ (bs ++ [(us.getD (atI us.length i) default)]))]) (v := .bool true) (.inr rfl) (.p .h (.p .h (.p .h (.w (.t (.t (.t .h))) (famb_sub (dl_sub (atI_lt i (by omega)))) .nil)))) Try.results111 rfl ?_
            exact fun w' hs => ⟨((a_119, c_120), (a_117, c_118)), (congrArg (fun b : Bool => Ending.returned (.bool b)) (show _ = decide (0 < us.length) from (by first | exact (decide_eq_true (by omega)).symm | rfl))), by rw [show (dlU us i) = (cutL us (atI us.length i)) from (by unfold dlU; rw [if_neg (by omega)])]; rw [show (dlB us bs i) = (bs ++ [(us.getD (atI us.length i) default)]) from (by unfold dlB; rw [if_neg (by omega)])]; exact hs⟩
          · -- number 13 first
            refine opS_0 rfl rfl ?_
            refine e_bsliceL (e := 231) (m := [(0, .agg #[.int .i64 ((us.getD (atI us.length i) default).to), .slice ((us.getD (atI us.length i) default).a) ((us.getD (atI us.length i) default).n) ((us.getD (atI us.length i) default).c)])]) (l := [.int .i64 ((us.getD (atI us.length i) default).to), .slice ((us.getD (atI us.length i) default).a) ((us.getD (atI us.length i) default).n) ((us.getD (atI us.length i) default).c)]) (evc rfl evn) (fun w => by kernel_rfl) ?_
            intro b_123
            refine ⟨.inr (.nil), ?_⟩
            refine anyS_all (rs := [5]) (by kernel_rfl) (by simp) ?_
            intro i hi; obtain rfl := List.mem_singleton.1 hi; clear hi
            refine opS_0 rfl rfl ?_
            refine OpE.ent (fun w hs => SH.nil0 (sz := 2) (t := 231) w hs) ?_
            refine e_appendL (enc := letV) (xs := ([] : List Let)) (ns := (bs : List Let)) (zs := bs) (bytes := 32) letV_len letV_one Try.underlying134 (i := Try.t231) rfl rfl rfl rfl rfl (by decide) rfl rfl (by first | rfl | omega) (by first | rfl | omega) .h (oslR (.t (.t (.t (.t .h))))) (List.nil_append _) (by omega) (by omega) ?_
            intro a_125 c_126
            refine ⟨.inr (.nil), ?_⟩
            refine anyS_all (rs := [14]) (by kernel_rfl) (by simp) ?_
            intro i hi; obtain rfl := List.mem_singleton.1 hi; clear hi
            refine opS_0 rfl rfl ?_
            refine e_appendL (enc := letV) (xs := (bs : List Let)) (ns := ([(us.getD (atI us.length i) default)] : List Let)) (zs := (bs ++ [(us.getD (atI us.length i) default)])) (bytes := 32) letV_len letV_one Try.underlying134 (i := Try.t231) rfl rfl rfl rfl rfl (by decide) rfl rfl (by first | rfl | omega) (by first | rfl | omega) .h (fun w hs => celR (.t .h) w hs) (by first | rfl | simp) (by (try simp only [List.length_append, List.length_cons, List.length_nil] at *); omega) (by (try simp only [List.length_append, List.length_cons, List.length_nil] at *); omega) ?_
            intro a_127 c_128
            refine ⟨.inr (.nil), ?_⟩
            refine anyS_take (i := 15) rfl (by kernel_rfl) (by kernel_rfl) (by kernel_rfl) (by kernel_rfl) (Yq.of (v := .pointer (some ⟨wb, 0, none⟩)) (y_nilP rfl) rfl) (.nil) ?_
            refine anyS_take (i := 16) rfl (by kernel_rfl) (by kernel_rfl) (by kernel_rfl) (by kernel_rfl) (Yq.of (v := .pointer (some ⟨wb, 1, none⟩)) (y_fieldAddr (o' := 1) rfl Try.underlying136 rfl Try.sizeOf134 (by decide) rfl) rfl) (.nil) ?_
            refine anyS_all (rs := [17]) (by kernel_rfl) (by simp) ?_
            intro i hi; obtain rfl := List.mem_singleton.1 hi; clear hi
            refine opS_0 rfl rfl ?_
            refine e_store (vs := [.slice a_127 ((bs ++ [(us.getD (atI us.length i) default)]).length) c_128]) (l' := [.slice ua us.length uc, .slice a_127 ((bs ++ [(us.getD (atI us.length i) default)]).length) c_128]) rfl rfl rfl rfl Try.sizeOf134 (.t (.t .h)) (Nat.le_of_ble_eq_true rfl) rfl ?_
            refine ⟨.inr (.nil), ?_⟩
            refine anyS_done (by kernel_rfl) ?_
            refine thenS_n ?_
            refine wpS_seq ?_
            refine wpS_region ?_
            refine s_y (v := .pointer (some ⟨wb, 0, none⟩)) (y_move rfl) rfl ?_
            refine s_y (v := .pointer (some ⟨wb, 0, none⟩)) (y_move rfl) rfl ?_
            refine s_y (v := .pointer (some ⟨wb, 0, none⟩)) (y_nilP rfl) rfl ?_
            refine s_y (v := .pointer (some ⟨wb, 0, none⟩)) (y_fieldAddr (o' := 0) rfl Try.underlying136 rfl Try.sizeOf134 (by decide) rfl) rfl ?_
            refine s_y (v := .slice ua us.length uc) (y_load1 rfl Try.isAgg134 (own1 .h rfl)) rfl ?_
            refine s_y (v := .int .i64 ((((atI us.length i) : Nat) : Int))) (y_move rfl) rfl ?_
            refine s_e rfl ?_
            refine e_call (f := 196) (args := #[.slice ua us.length uc, .int .i64 ((((atI us.length i) : Nat) : Int))]) (X := Option Addr × Nat) (A := []) (M := [cel wb 136 [.slice ua us.length uc, .slice a_127 ((bs ++ [(us.getD (atI us.length i) default)]).length) c_128], osl a_127 c_128 ((bs ++ [(us.getD (atI us.length i) default)]).length) 2 231 ((bs ++ [(us.getD (atI us.length i) default)]).flatMap letV), cel b_123 231 [.int .i64 ((us.getD (atI us.length i) default).to), .slice ((us.getD (atI us.length i) default).a) ((us.getD (atI us.length i) default).n) ((us.getD (atI us.length i) default).c)], osl ua uc us.length 2 231 (us.flatMap letV), osl ba bc bs.length 2 231 (bs.flatMap letV), famb (us ++ bs)]) (V := slV (cutL us (atI us.length i))) (A' := fun x => [slR letV 2 231 (cutL us (atI us.length i)) x]) (C := fun x => (cutL us (atI us.length i)).length ≤ x.2) Try.call196 (ev2 rfl rfl) (.p .h (.p .h (.p .h (.p .h (.p .h (.p .h .nil)))))) (fun w hs => (rcut_c ua us.length uc us (atI us.length i) w rfl (oslR (.t (.t (.t .h))) w hs) (by omega) (by omega) (by omega)).cap) ?_
            rintro ⟨a_129, c_130⟩ hc131; replace hc131 : (cutL us (atI us.length i)).length ≤ c_130 := hc131
            refine s_y (v := .pointer (some ⟨wb, 0, none⟩)) (y_nilP rfl) rfl ?_
            refine s_y (v := .pointer (some ⟨wb, 0, none⟩)) (y_fieldAddr (o' := 0) rfl Try.underlying136 rfl Try.sizeOf134 (by decide) rfl) rfl ?_
            refine s_e0 ?_
            refine e_store (vs := [.slice a_129 ((cutL us (atI us.length i)).length) c_130]) (l' := [.slice a_129 ((cutL us (atI us.length i)).length) c_130, .slice a_127 ((bs ++ [(us.getD (atI us.length i) default)]).length) c_128]) rfl rfl rfl rfl Try.sizeOf134 (.t .h) (Nat.le_of_ble_eq_true rfl) rfl ?_
            refine wpL_nil ?_
            refine thenS_n ?_
            refine wpS_seq ?_
            refine wpS_region ?_
            refine s_y (v := .bool true) (y_assign rfl) rfl ?_
            refine wpL_nil ?_
            refine thenS_n ?_
            refine wpS_ret ?_
            refine fin1 (M := [cel wb 136 [.slice a_129 ((cutL us (atI us.length i)).length) c_130, .slice a_127 ((bs ++ [(us.getD (atI us.length i) default)]).length) c_128], osl a_129 c_130 ((cutL us (atI us.length i)).length) 2 231 ((cutL us (atI us.length i)).flatMap letV), osl a_127 c_128 ((bs ++ [(us.getD (atI us.length i) default)]).length) 2 231 ((bs ++ [(us.getD (atI us.length i) default)]).flatMap letV), famb ((cutL us (atI us.length i)) ++ (bs ++ [(us.getD (atI us.length i) default)]))]) (v := .bool true) (.inr rfl) (.p .h (.p .h (.p .h (.w (.t (.t (.t .h))) (famb_sub (dl_sub (atI_lt i (by omega)))) .nil)))) Try.results111 rfl ?_
            exact fun w' hs => ⟨((a_129, c_130), (a_127, c_128)), (congrArg (fun b : Bool => Ending.returned (.bool b)) (show _ = decide (0 < us.length) from (by first | exact (decide_eq_true (by omega)).symm | rfl))), by rw [show (dlU us i) = (cutL us (atI us.length i)) from (by unfold dlU; rw [if_neg (by omega)])]; rw [show (dlB us bs i) = (bs ++ [(us.getD (atI us.length i) default)]) from (by unfold dlB; rw [if_neg (by omega)])]; exact hs⟩
      · -- number 12 first
        refine opS_0 rfl rfl ?_
        refine OpE.y (v := .agg #[.int .i64 ((us.getD (atI us.length i) default).to), .slice ((us.getD (atI us.length i) default).a) ((us.getD (atI us.length i) default).n) ((us.getD (atI us.length i) default).c)]) (y_loadN (vs := letV (us.getD (atI us.length i) default)) rfl Try.isAgg231 Try.sizeOf231 (rdN (oslR (.t .h)) (fl_getN letV_len us (atI us.length i) (by first | omega | (simp only [List.length_set, List.length_take, List.length_drop]; done) | (simp only [List.length_set, List.length_take, List.length_drop]; omega))))) ?_
        refine ⟨.inr (.nil), ?_⟩
        refine anyS_all (rs := [4, 13]) (by kernel_rfl) (by simp) ?_
        intro i hi133; simp only [List.mem_cons, List.not_mem_nil, or_false] at hi133; rcases hi133 with rfl | rfl
        · -- number 4 first
          refine opS_0 rfl rfl ?_
          refine OpE.y (v := .slice ba bs.length bc) (y_load1 rfl Try.isAgg134 (own1 .h rfl)) ?_
          refine ⟨.inr (.nil), ?_⟩
          refine anyS_all (rs := [5, 13]) (by kernel_rfl) (by simp) ?_
          intro i hi134; simp only [List.mem_cons, List.not_mem_nil, or_false] at hi134; rcases hi134 with rfl | rfl
          · -- number 5 first
            refine opS_0 rfl rfl ?_
            refine OpE.ent (fun w hs => SH.nil0 (sz := 2) (t := 231) w hs) ?_
            refine e_appendL (enc := letV) (xs := ([] : List Let)) (ns := (bs : List Let)) (zs := bs) (bytes := 32) letV_len letV_one Try.underlying134 (i := Try.t231) rfl rfl rfl rfl rfl (by decide) rfl rfl (by first | rfl | omega) (by first | rfl | omega) .h (oslR (.t (.t (.t .h)))) (List.nil_append _) (by omega) (by omega) ?_
            intro a_136 c_137
            refine ⟨.inr (.nil), ?_⟩
            refine anyS_all (rs := [13]) (by kernel_rfl) (by simp) ?_
            intro i hi; obtain rfl := List.mem_singleton.1 hi; clear hi
            refine opS_0 rfl rfl ?_
            refine e_bsliceL (e := 231) (m := [(0, .agg #[.int .i64 ((us.getD (atI us.length i) default).to), .slice ((us.getD (atI us.length i) default).a) ((us.getD (atI us.length i) default).n) ((us.getD (atI us.length i) default).c)])]) (l := [.int .i64 ((us.getD (atI us.length i) default).to), .slice ((us.getD (atI us.length i) default).a) ((us.getD (atI us.length i) default).n) ((us.getD (atI us.length i) default).c)]) (evc rfl evn) (fun w => by kernel_rfl) ?_
            intro b_138
            refine ⟨.inr (.nil), ?_⟩
            refine anyS_all (rs := [14]) (by kernel_rfl) (by simp) ?_
            intro i hi; obtain rfl := List.mem_singleton.1 hi; clear hi
            refine opS_0 rfl rfl ?_
            refine e_appendL (enc := letV) (xs := (bs : List Let)) (ns := ([(us.getD (atI us.length i) default)] : List Let)) (zs := (bs ++ [(us.getD (atI us.length i) default)])) (bytes := 32) letV_len letV_one Try.underlying134 (i := Try.t231) rfl rfl rfl rfl rfl (by decide) rfl rfl (by first | rfl | omega) (by first | rfl | omega) (.t .h) (fun w hs => celR .h w hs) (by first | rfl | simp) (by (try simp only [List.length_append, List.length_cons, List.length_nil] at *); omega) (by (try simp only [List.length_append, List.length_cons, List.length_nil] at *); omega) ?_
            intro a_139 c_140
            refine ⟨.inr (.nil), ?_⟩
            refine anyS_take (i := 15) rfl (by kernel_rfl) (by kernel_rfl) (by kernel_rfl) (by kernel_rfl) (Yq.of (v := .pointer (some ⟨wb, 0, none⟩)) (y_nilP rfl) rfl) (.nil) ?_
            refine anyS_take (i := 16) rfl (by kernel_rfl) (by kernel_rfl) (by kernel_rfl) (by kernel_rfl) (Yq.of (v := .pointer (some ⟨wb, 1, none⟩)) (y_fieldAddr (o' := 1) rfl Try.underlying136 rfl Try.sizeOf134 (by decide) rfl) rfl) (.nil) ?_
            refine anyS_all (rs := [17]) (by kernel_rfl) (by simp) ?_
            intro i hi; obtain rfl := List.mem_singleton.1 hi; clear hi
            refine opS_0 rfl rfl ?_
            refine e_store (vs := [.slice a_139 ((bs ++ [(us.getD (atI us.length i) default)]).length) c_140]) (l' := [.slice ua us.length uc, .slice a_139 ((bs ++ [(us.getD (atI us.length i) default)]).length) c_140]) rfl rfl rfl rfl Try.sizeOf134 (.t (.t .h)) (Nat.le_of_ble_eq_true rfl) rfl ?_
            refine ⟨.inr (.nil), ?_⟩
            refine anyS_done (by kernel_rfl) ?_
            refine thenS_n ?_
            refine wpS_seq ?_
            refine wpS_region ?_
            refine s_y (v := .pointer (some ⟨wb, 0, none⟩)) (y_move rfl) rfl ?_
            refine s_y (v := .pointer (some ⟨wb, 0, none⟩)) (y_move rfl) rfl ?_
            refine s_y (v := .pointer (some ⟨wb, 0, none⟩)) (y_nilP rfl) rfl ?_
            refine s_y (v := .pointer (some ⟨wb, 0, none⟩)) (y_fieldAddr (o' := 0) rfl Try.underlying136 rfl Try.sizeOf134 (by decide) rfl) rfl ?_
            refine s_y (v := .slice ua us.length uc) (y_load1 rfl Try.isAgg134 (own1 .h rfl)) rfl ?_
            refine s_y (v := .int .i64 ((((atI us.length i) : Nat) : Int))) (y_move rfl) rfl ?_
            refine s_e rfl ?_
            refine e_call (f := 196) (args := #[.slice ua us.length uc, .int .i64 ((((atI us.length i) : Nat) : Int))]) (X := Option Addr × Nat) (A := []) (M := [cel wb 136 [.slice ua us.length uc, .slice a_139 ((bs ++ [(us.getD (atI us.length i) default)]).length) c_140], osl a_139 c_140 ((bs ++ [(us.getD (atI us.length i) default)]).length) 2 231 ((bs ++ [(us.getD (atI us.length i) default)]).flatMap letV), cel b_138 231 [.int .i64 ((us.getD (atI us.length i) default).to), .slice ((us.getD (atI us.length i) default).a) ((us.getD (atI us.length i) default).n) ((us.getD (atI us.length i) default).c)], osl ua uc us.length 2 231 (us.flatMap letV), osl ba bc bs.length 2 231 (bs.flatMap letV), famb (us ++ bs)]) (V := slV (cutL us (atI us.length i))) (A' := fun x => [slR letV 2 231 (cutL us (atI us.length i)) x]) (C := fun x => (cutL us (atI us.length i)).length ≤ x.2) Try.call196 (ev2 rfl rfl) (.p .h (.p .h (.p .h (.p .h (.p .h (.p .h .nil)))))) (fun w hs => (rcut_c ua us.length uc us (atI us.length i) w rfl (oslR (.t (.t (.t .h))) w hs) (by omega) (by omega) (by omega)).cap) ?_
            rintro ⟨a_141, c_142⟩ hc143; replace hc143 : (cutL us (atI us.length i)).length ≤ c_142 := hc143
            refine s_y (v := .pointer (some ⟨wb, 0, none⟩)) (y_nilP rfl) rfl ?_
            refine s_y (v := .pointer (some ⟨wb, 0, none⟩)) (y_fieldAddr (o' := 0) rfl Try.underlying136 rfl Try.sizeOf134 (by decide) rfl) rfl ?_
            refine s_e0 ?_
            refine e_store (vs := [.slice a_141 ((cutL us (atI us.length i)).length) c_142]) (l' := [.slice a_141 ((cutL us (atI us.length i)).length) c_142, .slice a_139 ((bs ++ [(us.getD (atI us.length i) default)]).length) c_140]) rfl rfl rfl rfl Try.sizeOf134 (.t .h) (Nat.le_of_ble_eq_true rfl) rfl ?_
            refine wpL_nil ?_
            refine thenS_n ?_
            refine wpS_seq ?_
            refine wpS_region ?_
            refine s_y (v := .bool true) (y_assign rfl) rfl ?_
            refine wpL_nil ?_
            refine thenS_n ?_
            refine wpS_ret ?_
            refine fin1 (M := [cel wb 136 [.slice a_141 ((cutL us (atI us.length i)).length) c_142, .slice a_139 ((bs ++ [(us.getD (atI us.length i) default)]).length) c_140], osl a_141 c_142 ((cutL us (atI us.length i)).length) 2 231 ((cutL us (atI us.length i)).flatMap letV), osl a_139 c_140 ((bs ++ [(us.getD (atI us.length i) default)]).length) 2 231 ((bs ++ [(us.getD (atI us.length i) default)]).flatMap letV), famb ((cutL us (atI us.length i)) ++ (bs ++ [(us.getD (atI us.length i) default)]))]) (v := .bool true) (.inr rfl) (.p .h (.p .h (.p .h (.w (.t (.t (.t .h))) (famb_sub (dl_sub (atI_lt i (by omega)))) .nil)))) Try.results111 rfl ?_
            exact fun w' hs => ⟨((a_141, c_142), (a_139, c_140)), (congrArg (fun b : Bool => Ending.returned (.bool b)) (show _ = decide (0 < us.length) from (by first | exact (decide_eq_true (by omega)).symm | rfl))), by rw [show (dlU us i) = (cutL us (atI us.length i)) from (by unfold dlU; rw [if_neg (by omega)])]; rw [show (dlB us bs i) = (bs ++ [(us.getD (atI us.length i) default)]) from (by unfold dlB; rw [if_neg (by omega)])]; exact hs⟩
          · -- number 13 first
            refine opS_0 rfl rfl ?_
            refine e_bsliceL (e := 231) (m := [(0, .agg #[.int .i64 ((us.getD (atI us.length i) default).to), .slice ((us.getD (atI us.length i) default).a) ((us.getD (atI us.length i) default).n) ((us.getD (atI us.length i) default).c)])]) (l := [.int .i64 ((us.getD (atI us.length i) default).to), .slice ((us.getD (atI us.length i) default).a) ((us.getD (atI us.length i) default).n) ((us.getD (atI us.length i) default).c)]) (evc rfl evn) (fun w => by kernel_rfl) ?_
            intro b_145
            refine ⟨.inr (.nil), ?_⟩
            refine anyS_all (rs := [5]) (by kernel_rfl) (by simp) ?_
            intro i hi; obtain rfl := List.mem_singleton.1 hi; clear hi
            refine opS_0 rfl rfl ?_
            refine OpE.ent (fun w hs => SH.nil0 (sz := 2) (t := 231) w hs) ?_
            refine e_appendL (enc := letV) (xs := ([] : List Let)) (ns := (bs : List Let)) (zs := bs) (bytes := 32) letV_len letV_one Try.underlying134 (i := Try.t231) rfl rfl rfl rfl rfl (by decide) rfl rfl (by first | rfl | omega) (by first | rfl | omega) .h (oslR (.t (.t (.t (.t .h))))) (List.nil_append _) (by omega) (by omega) ?_
            intro a_147 c_148
            refine ⟨.inr (.nil), ?_⟩
            refine anyS_all (rs := [14]) (by kernel_rfl) (by simp) ?_
            intro i hi; obtain rfl := List.mem_singleton.1 hi; clear hi
            refine opS_0 rfl rfl ?_
            refine e_appendL (enc := letV) (xs := (bs : List Let)) (ns := ([(us.getD (atI us.length i) default)] : List Let)) (zs := (bs ++ [(us.getD (atI us.length i) default)])) (bytes := 32) letV_len letV_one Try.underlying134 (i := Try.t231) rfl rfl rfl rfl rfl (by decide) rfl rfl (by first | rfl | omega) (by first | rfl | omega) .h (fun w hs => celR (.t .h) w hs) (by first | rfl | simp) (by (try simp only [List.length_append, List.length_cons, List.length_nil] at *); omega) (by (try simp only [List.length_append, List.length_cons, List.length_nil] at *); omega) ?_
            intro a_149 c_150
            refine ⟨.inr (.nil), ?_⟩
            refine anyS_take (i := 15) rfl (by kernel_rfl) (by kernel_rfl) (by kernel_rfl) (by kernel_rfl) (Yq.of (v := .pointer (some ⟨wb, 0, none⟩)) (y_nilP rfl) rfl) (.nil) ?_
            refine anyS_take (i := 16) rfl (by kernel_rfl) (by kernel_rfl) (by kernel_rfl) (by kernel_rfl) (Yq.of (v := .pointer (some ⟨wb, 1, none⟩)) (y_fieldAddr (o' := 1) rfl Try.underlying136 rfl Try.sizeOf134 (by decide) rfl) rfl) (.nil) ?_
            refine anyS_all (rs := [17]) (by kernel_rfl) (by simp) ?_
            intro i hi; obtain rfl := List.mem_singleton.1 hi; clear hi
            refine opS_0 rfl rfl ?_
            refine e_store (vs := [.slice a_149 ((bs ++ [(us.getD (atI us.length i) default)]).length) c_150]) (l' := [.slice ua us.length uc, .slice a_149 ((bs ++ [(us.getD (atI us.length i) default)]).length) c_150]) rfl rfl rfl rfl Try.sizeOf134 (.t (.t .h)) (Nat.le_of_ble_eq_true rfl) rfl ?_
            refine ⟨.inr (.nil), ?_⟩
            refine anyS_done (by kernel_rfl) ?_
            refine thenS_n ?_
            refine wpS_seq ?_
            refine wpS_region ?_
            refine s_y (v := .pointer (some ⟨wb, 0, none⟩)) (y_move rfl) rfl ?_
            refine s_y (v := .pointer (some ⟨wb, 0, none⟩)) (y_move rfl) rfl ?_
            refine s_y (v := .pointer (some ⟨wb, 0, none⟩)) (y_nilP rfl) rfl ?_
            refine s_y (v := .pointer (some ⟨wb, 0, none⟩)) (y_fieldAddr (o' := 0) rfl Try.underlying136 rfl Try.sizeOf134 (by decide) rfl) rfl ?_
            refine s_y (v := .slice ua us.length uc) (y_load1 rfl Try.isAgg134 (own1 .h rfl)) rfl ?_
            refine s_y (v := .int .i64 ((((atI us.length i) : Nat) : Int))) (y_move rfl) rfl ?_
            refine s_e rfl ?_
            refine e_call (f := 196) (args := #[.slice ua us.length uc, .int .i64 ((((atI us.length i) : Nat) : Int))]) (X := Option Addr × Nat) (A := []) (M := [cel wb 136 [.slice ua us.length uc, .slice a_149 ((bs ++ [(us.getD (atI us.length i) default)]).length) c_150], osl a_149 c_150 ((bs ++ [(us.getD (atI us.length i) default)]).length) 2 231 ((bs ++ [(us.getD (atI us.length i) default)]).flatMap letV), cel b_145 231 [.int .i64 ((us.getD (atI us.length i) default).to), .slice ((us.getD (atI us.length i) default).a) ((us.getD (atI us.length i) default).n) ((us.getD (atI us.length i) default).c)], osl ua uc us.length 2 231 (us.flatMap letV), osl ba bc bs.length 2 231 (bs.flatMap letV), famb (us ++ bs)]) (V := slV (cutL us (atI us.length i))) (A' := fun x => [slR letV 2 231 (cutL us (atI us.length i)) x]) (C := fun x => (cutL us (atI us.length i)).length ≤ x.2) Try.call196 (ev2 rfl rfl) (.p .h (.p .h (.p .h (.p .h (.p .h (.p .h .nil)))))) (fun w hs => (rcut_c ua us.length uc us (atI us.length i) w rfl (oslR (.t (.t (.t .h))) w hs) (by omega) (by omega) (by omega)).cap) ?_
            rintro ⟨a_151, c_152⟩ hc153; replace hc153 : (cutL us (atI us.length i)).length ≤ c_152 := hc153
            refine s_y (v := .pointer (some ⟨wb, 0, none⟩)) (y_nilP rfl) rfl ?_
            refine s_y (v := .pointer (some ⟨wb, 0, none⟩)) (y_fieldAddr (o' := 0) rfl Try.underlying136 rfl Try.sizeOf134 (by decide) rfl) rfl ?_
            refine s_e0 ?_
            refine e_store (vs := [.slice a_151 ((cutL us (atI us.length i)).length) c_152]) (l' := [.slice a_151 ((cutL us (atI us.length i)).length) c_152, .slice a_149 ((bs ++ [(us.getD (atI us.length i) default)]).length) c_150]) rfl rfl rfl rfl Try.sizeOf134 (.t .h) (Nat.le_of_ble_eq_true rfl) rfl ?_
            refine wpL_nil ?_
            refine thenS_n ?_
            refine wpS_seq ?_
            refine wpS_region ?_
            refine s_y (v := .bool true) (y_assign rfl) rfl ?_
            refine wpL_nil ?_
            refine thenS_n ?_
            refine wpS_ret ?_
            refine fin1 (M := [cel wb 136 [.slice a_151 ((cutL us (atI us.length i)).length) c_152, .slice a_149 ((bs ++ [(us.getD (atI us.length i) default)]).length) c_150], osl a_151 c_152 ((cutL us (atI us.length i)).length) 2 231 ((cutL us (atI us.length i)).flatMap letV), osl a_149 c_150 ((bs ++ [(us.getD (atI us.length i) default)]).length) 2 231 ((bs ++ [(us.getD (atI us.length i) default)]).flatMap letV), famb ((cutL us (atI us.length i)) ++ (bs ++ [(us.getD (atI us.length i) default)]))]) (v := .bool true) (.inr rfl) (.p .h (.p .h (.p .h (.w (.t (.t (.t .h))) (famb_sub (dl_sub (atI_lt i (by omega)))) .nil)))) Try.results111 rfl ?_
            exact fun w' hs => ⟨((a_151, c_152), (a_149, c_150)), (congrArg (fun b : Bool => Ending.returned (.bool b)) (show _ = decide (0 < us.length) from (by first | exact (decide_eq_true (by omega)).symm | rfl))), by rw [show (dlU us i) = (cutL us (atI us.length i)) from (by unfold dlU; rw [if_neg (by omega)])]; rw [show (dlB us bs i) = (bs ++ [(us.getD (atI us.length i) default)]) from (by unfold dlB; rw [if_neg (by omega)])]; exact hs⟩
        · -- number 13 first
          refine opS_0 rfl rfl ?_
          refine e_bsliceL (e := 231) (m := [(0, .agg #[.int .i64 ((us.getD (atI us.length i) default).to), .slice ((us.getD (atI us.length i) default).a) ((us.getD (atI us.length i) default).n) ((us.getD (atI us.length i) default).c)])]) (l := [.int .i64 ((us.getD (atI us.length i) default).to), .slice ((us.getD (atI us.length i) default).a) ((us.getD (atI us.length i) default).n) ((us.getD (atI us.length i) default).c)]) (evc rfl evn) (fun w => by kernel_rfl) ?_
          intro b_155
          refine ⟨.inr (.nil), ?_⟩
          refine anyS_all (rs := [4]) (by kernel_rfl) (by simp) ?_
          intro i hi; obtain rfl := List.mem_singleton.1 hi; clear hi
          refine opS_0 rfl rfl ?_
          refine OpE.y (v := .slice ba bs.length bc) (y_load1 rfl Try.isAgg134 (own1 (.t .h) rfl)) ?_
          refine ⟨.inr (.nil), ?_⟩
          refine anyS_all (rs := [5]) (by kernel_rfl) (by simp) ?_
          intro i hi; obtain rfl := List.mem_singleton.1 hi; clear hi
          refine opS_0 rfl rfl ?_
          refine OpE.ent (fun w hs => SH.nil0 (sz := 2) (t := 231) w hs) ?_
          refine e_appendL (enc := letV) (xs := ([] : List Let)) (ns := (bs : List Let)) (zs := bs) (bytes := 32) letV_len letV_one Try.underlying134 (i := Try.t231) rfl rfl rfl rfl rfl (by decide) rfl rfl (by first | rfl | omega) (by first | rfl | omega) .h (oslR (.t (.t (.t (.t .h))))) (List.nil_append _) (by omega) (by omega) ?_
          intro a_157 c_158
          refine ⟨.inr (.nil), ?_⟩
          refine anyS_all (rs := [14]) (by kernel_rfl) (by simp) ?_
          intro i hi; obtain rfl := List.mem_singleton.1 hi; clear hi
          refine opS_0 rfl rfl ?_
          refine e_appendL (enc := letV) (xs := (bs : List Let)) (ns := ([(us.getD (atI us.length i) default)] : List Let)) (zs := (bs ++ [(us.getD (atI us.length i) default)])) (bytes := 32) letV_len letV_one Try.underlying134 (i := Try.t231) rfl rfl rfl rfl rfl (by decide) rfl rfl (by first | rfl | omega) (by first | rfl | omega) .h (fun w hs => celR (.t .h) w hs) (by first | rfl | simp) (by (try simp only [List.length_append, List.length_cons, List.length_nil] at *); omega) (by (try simp only [List.length_append, List.length_cons, List.length_nil] at *); omega) ?_
          intro a_159 c_160
          refine ⟨.inr (.nil), ?_⟩
          refine anyS_take (i := 15) rfl (by kernel_rfl) (by kernel_rfl) (by kernel_rfl) (by kernel_rfl) (Yq.of (v := .pointer (some ⟨wb, 0, none⟩)) (y_nilP rfl) rfl) (.nil) ?_
          refine anyS_take (i := 16) rfl (by kernel_rfl) (by kernel_rfl) (by kernel_rfl) (by kernel_rfl) (Yq.of (v := .pointer (some ⟨wb, 1, none⟩)) (y_fieldAddr (o' := 1) rfl Try.underlying136 rfl Try.sizeOf134 (by decide) rfl) rfl) (.nil) ?_
          refine anyS_all (rs := [17]) (by kernel_rfl) (by simp) ?_
          intro i hi; obtain rfl := List.mem_singleton.1 hi; clear hi
          refine opS_0 rfl rfl ?_
          refine e_store (vs := [.slice a_159 ((bs ++ [(us.getD (atI us.length i) default)]).length) c_160]) (l' := [.slice ua us.length uc, .slice a_159 ((bs ++ [(us.getD (atI us.length i) default)]).length) c_160]) rfl rfl rfl rfl Try.sizeOf134 (.t (.t .h)) (Nat.le_of_ble_eq_true rfl) rfl ?_
          refine ⟨.inr (.nil), ?_⟩
          refine anyS_done (by kernel_rfl) ?_
          refine thenS_n ?_
          refine wpS_seq ?_
          refine wpS_region ?_
          refine s_y (v := .pointer (some ⟨wb, 0, none⟩)) (y_move rfl) rfl ?_
          refine s_y (v := .pointer (some ⟨wb, 0, none⟩)) (y_move rfl) rfl ?_
          refine s_y (v := .pointer (some ⟨wb, 0, none⟩)) (y_nilP rfl) rfl ?_
          refine s_y (v := .pointer (some ⟨wb, 0, none⟩)) (y_fieldAddr (o' := 0) rfl Try.underlying136 rfl Try.sizeOf134 (by decide) rfl) rfl ?_
          refine s_y (v := .slice ua us.length uc) (y_load1 rfl Try.isAgg134 (own1 .h rfl)) rfl ?_
          refine s_y (v := .int .i64 ((((atI us.length i) : Nat) : Int))) (y_move rfl) rfl ?_
          refine s_e rfl ?_
          refine e_call (f := 196) (args := #[.slice ua us.length uc, .int .i64 ((((atI us.length i) : Nat) : Int))]) (X := Option Addr × Nat) (A := []) (M := [cel wb 136 [.slice ua us.length uc, .slice a_159 ((bs ++ [(us.getD (atI us.length i) default)]).length) c_160], osl a_159 c_160 ((bs ++ [(us.getD (atI us.length i) default)]).length) 2 231 ((bs ++ [(us.getD (atI us.length i) default)]).flatMap letV), cel b_155 231 [.int .i64 ((us.getD (atI us.length i) default).to), .slice ((us.getD (atI us.length i) default).a) ((us.getD (atI us.length i) default).n) ((us.getD (atI us.length i) default).c)], osl ua uc us.length 2 231 (us.flatMap letV), osl ba bc bs.length 2 231 (bs.flatMap letV), famb (us ++ bs)]) (V := slV (cutL us (atI us.length i))) (A' := fun x => [slR letV 2 231 (cutL us (atI us.length i)) x]) (C := fun x => (cutL us (atI us.length i)).length ≤ x.2) Try.call196 (ev2 rfl rfl) (.p .h (.p .h (.p .h (.p .h (.p .h (.p .h .nil)))))) (fun w hs => (rcut_c ua us.length uc us (atI us.length i) w rfl (oslR (.t (.t (.t .h))) w hs) (by omega) (by omega) (by omega)).cap) ?_
          rintro ⟨a_161, c_162⟩ hc163; replace hc163 : (cutL us (atI us.length i)).length ≤ c_162 := hc163
          refine s_y (v := .pointer (some ⟨wb, 0, none⟩)) (y_nilP rfl) rfl ?_
          refine s_y (v := .pointer (some ⟨wb, 0, none⟩)) (y_fieldAddr (o' := 0) rfl Try.underlying136 rfl Try.sizeOf134 (by decide) rfl) rfl ?_
          refine s_e0 ?_
          refine e_store (vs := [.slice a_161 ((cutL us (atI us.length i)).length) c_162]) (l' := [.slice a_161 ((cutL us (atI us.length i)).length) c_162, .slice a_159 ((bs ++ [(us.getD (atI us.length i) default)]).length) c_160]) rfl rfl rfl rfl Try.sizeOf134 (.t .h) (Nat.le_of_ble_eq_true rfl) rfl ?_
          refine wpL_nil ?_
          refine thenS_n ?_
          refine wpS_seq ?_
          refine wpS_region ?_
          refine s_y (v := .bool true) (y_assign rfl) rfl ?_
          refine wpL_nil ?_
          refine thenS_n ?_
          refine wpS_ret ?_
          refine fin1 (M := [cel wb 136 [.slice a_161 ((cutL us (atI us.length i)).length) c_162, .slice a_159 ((bs ++ [(us.getD (atI us.length i) default)]).length) c_160], osl a_161 c_162 ((cutL us (atI us.length i)).length) 2 231 ((cutL us (atI us.length i)).flatMap letV), osl a_159 c_160 ((bs ++ [(us.getD (atI us.length i) default)]).length) 2 231 ((bs ++ [(us.getD (atI us.length i) default)]).flatMap letV), famb ((cutL us (atI us.length i)) ++ (bs ++ [(us.getD (atI us.length i) default)]))]) (v := .bool true) (.inr rfl) (.p .h (.p .h (.p .h (.w (.t (.t (.t .h))) (famb_sub (dl_sub (atI_lt i (by omega)))) .nil)))) Try.results111 rfl ?_
          exact fun w' hs => ⟨((a_161, c_162), (a_159, c_160)), (congrArg (fun b : Bool => Ending.returned (.bool b)) (show _ = decide (0 < us.length) from (by first | exact (decide_eq_true (by omega)).symm | rfl))), by rw [show (dlU us i) = (cutL us (atI us.length i)) from (by unfold dlU; rw [if_neg (by omega)])]; rw [show (dlB us bs i) = (bs ++ [(us.getD (atI us.length i) default)]) from (by unfold dlB; rw [if_neg (by omega)])]; exact hs⟩

theorem rdeliver_c (wb : Nat) (ua : Option Addr) (uc : Nat) (ba : Option Addr) (bc : Nat) (us bs : List Let) (i : Int) (w : World) (hul : us.length ≤ 100000) (hbl : bs.length ≤ 100000) (hA : SH w (([cel wb 136 [.slice ua us.length uc, .slice ba bs.length bc], osl ua uc us.length 2 231 (us.flatMap letV), osl ba bc bs.length 2 231 (bs.flatMap letV), famb (us ++ bs)] : List Res).flatMap Res.fp) [cel wb 136 [.slice ua us.length uc, .slice ba bs.length bc], osl ua uc us.length 2 231 (us.flatMap letV), osl ba bc bs.length 2 231 (bs.flatMap letV), famb (us ++ bs)] w) : Calls Try.prog 111 #[.pointer (some ⟨wb, 0, none⟩), .int .i64 i] w (fun e w' => ∃ x : (Option Addr × Nat) × (Option Addr × Nat), e = .returned (.bool (decide (0 < us.length))) ∧ SH w (([cel wb 136 [.slice ua us.length uc, .slice ba bs.length bc], osl ua uc us.length 2 231 (us.flatMap letV), osl ba bc bs.length 2 231 (bs.flatMap letV), famb (us ++ bs)] : List Res).flatMap Res.fp) [cel wb 136 [.slice x.1.1 ((dlU us i).length) x.1.2, .slice x.2.1 ((dlB us bs i).length) x.2.2], osl x.1.1 x.1.2 ((dlU us i).length) 2 231 ((dlU us i).flatMap letV), osl x.2.1 x.2.2 ((dlB us bs i).length) 2 231 ((dlB us bs i).flatMap letV), famb ((dlU us i) ++ (dlB us bs i))] w') := by
  by_cases h : us.length = 0
  · exact rdeliver0_c wb ua uc ba bc us bs i w hul hbl hA h
  · exact rdeliver1_c wb ua uc ba bc us bs i w hul hbl hA (by omega)

theorem rdrop0_c (wb : Nat) (ua : Option Addr) (uc : Nat) (ba : Option Addr) (bc : Nat) (us bs : List Let) (i : Int) (w : World) (hul : us.length ≤ 100000) (hbl : bs.length ≤ 100000) (hA : SH w (([cel wb 136 [.slice ua us.length uc, .slice ba bs.length bc], osl ua uc us.length 2 231 (us.flatMap letV), osl ba bc bs.length 2 231 (bs.flatMap letV), famb (us ++ bs)] : List Res).flatMap Res.fp) [cel wb 136 [.slice ua us.length uc, .slice ba bs.length bc], osl ua uc us.length 2 231 (us.flatMap letV), osl ba bc bs.length 2 231 (bs.flatMap letV), famb (us ++ bs)] w) (h0 : us.length = 0) : Calls Try.prog 112 #[.pointer (some ⟨wb, 0, none⟩), .int .i64 i] w (fun e w' => ∃ x : (Option Addr × Nat) × (Option Addr × Nat), e = .returned (.bool (decide (0 < us.length))) ∧ SH w (([cel wb 136 [.slice ua us.length uc, .slice ba bs.length bc], osl ua uc us.length 2 231 (us.flatMap letV), osl ba bc bs.length 2 231 (bs.flatMap letV), famb (us ++ bs)] : List Res).flatMap Res.fp) [cel wb 136 [.slice x.1.1 ((dlU us i).length) x.1.2, .slice x.2.1 bs.length x.2.2], osl x.1.1 x.1.2 ((dlU us i).length) 2 231 ((dlU us i).flatMap letV), osl x.2.1 x.2.2 bs.length 2 231 (bs.flatMap letV), famb ((dlU us i) ++ bs)] w') := by
  refine calls_S (n := 20) (σ0 := (upd (upd fr0 0 (.pointer (some ⟨wb, 0, none⟩))) 1 (.int .i64 i))) (D := (([cel wb 136 [.slice ua us.length uc, .slice ba bs.length bc], osl ua uc us.length 2 231 (us.flatMap letV), osl ba bc bs.length 2 231 (bs.flatMap letV), famb (us ++ bs)] : List Res).flatMap Res.fp)) (A := [cel wb 136 [.slice ua us.length uc, .slice ba bs.length bc], osl ua uc us.length 2 231 (us.flatMap letV), osl ba bc bs.length 2 231 (bs.flatMap letV), famb (us ++ bs)]) Try.func112 rfl Try.ntmps112 rfl (a2_fr _ _) hA ?_
  have hlt : 0 < us.length → atI us.length i < us.length := fun h => atI_lt i h
  refine wpS_cap (.t .h) (fun hcapU => ?_)
  refine wpS_cap (.t (.t .h)) (fun hcapB => ?_)
  refine wpS_seq ?_
  refine wpS_region ?_
  refine s_y (v := .bool false) (y_assign rfl) rfl ?_
  refine wpL_nil ?_
  refine thenS_n ?_
  refine wpS_seq ?_
  refine wpS_region ?_
  refine s_y (v := .pointer (some ⟨wb, 0, none⟩)) (y_move rfl) rfl ?_
  refine s_y (v := .int .i64 i) (y_move rfl) rfl ?_
  refine s_y (v := .int .i64 (-1)) (y_call (args := #[.pointer (some ⟨wb, 0, none⟩), .int .i64 i]) (v := .int .i64 (-1)) Try.call195 (ev2 rfl rfl) (fun w hs => place0_c wb ua us.length uc i w (by omega) (own1 .h rfl w hs) (by omega))) rfl ?_
  refine s_y (v := .int .i64 (-1)) (y_assign rfl) rfl ?_
  refine wpL_nil ?_
  refine thenS_n ?_
  refine wpS_seq ?_
  refine wpS_seq ?_
  refine wpS_region ?_
  refine s_y (v := .int .i64 (-1)) (y_move rfl) rfl ?_
  refine s_y (v := .bool true) (y_lss (a := -1) (b := 0) (c := true) rfl rfl (by decide)) rfl ?_
  refine wpL_nil ?_
  refine thenS_n ?_
  refine wpS_cond_t rfl ?_
  refine wpS_seq ?_
  refine wpS_region ?_
  refine s_y (v := .bool false) (y_assign rfl) rfl ?_
  refine wpL_nil ?_
  refine thenS_n ?_
  refine wpS_ret ?_
  refine thenS_r ?_
  refine fin1 (M := [cel wb 136 [.slice ua us.length uc, .slice ba bs.length bc], osl ua uc us.length 2 231 (us.flatMap letV), osl ba bc bs.length 2 231 (bs.flatMap letV), famb (us ++ bs)]) (v := .bool false) (.inr rfl) (.p .h (.p .h (.p .h (.p .h .nil)))) Try.results112 rfl ?_
  exact fun w' hs => ⟨((ua, uc), (ba, bc)), (congrArg (fun b : Bool => Ending.returned (.bool b)) (show _ = decide (0 < us.length) from (by first | exact (decide_eq_false (by omega)).symm | rfl))), by rw [show (dlU us i) = us from (by unfold dlU; rw [if_pos (by omega)])]; exact hs⟩

theorem rdrop1_c (wb : Nat) (ua : Option Addr) (uc : Nat) (ba : Option Addr) (bc : Nat) (us bs : List Let) (i : Int) (w : World) (hul : us.length ≤ 100000) (hbl : bs.length ≤ 100000) (hA : SH w (([cel wb 136 [.slice ua us.length uc, .slice ba bs.length bc], osl ua uc us.length 2 231 (us.flatMap letV), osl ba bc bs.length 2 231 (bs.flatMap letV), famb (us ++ bs)] : List Res).flatMap Res.fp) [cel wb 136 [.slice ua us.length uc, .slice ba bs.length bc], osl ua uc us.length 2 231 (us.flatMap letV), osl ba bc bs.length 2 231 (bs.flatMap letV), famb (us ++ bs)] w) (h0 : 0 < us.length) : Calls Try.prog 112 #[.pointer (some ⟨wb, 0, none⟩), .int .i64 i] w (fun e w' => ∃ x : (Option Addr × Nat) × (Option Addr × Nat), e = .returned (.bool (decide (0 < us.length))) ∧ SH w (([cel wb 136 [.slice ua us.length uc, .slice ba bs.length bc], osl ua uc us.length 2 231 (us.flatMap letV), osl ba bc bs.length 2 231 (bs.flatMap letV), famb (us ++ bs)] : List Res).flatMap Res.fp) [cel wb 136 [.slice x.1.1 ((dlU us i).length) x.1.2, .slice x.2.1 bs.length x.2.2], osl x.1.1 x.1.2 ((dlU us i).length) 2 231 ((dlU us i).flatMap letV), osl x.2.1 x.2.2 bs.length 2 231 (bs.flatMap letV), famb ((dlU us i) ++ bs)] w') := by
  refine calls_S (n := 20) (σ0 := (upd (upd fr0 0 (.pointer (some ⟨wb, 0, none⟩))) 1 (.int .i64 i))) (D := (([cel wb 136 [.slice ua us.length uc, .slice ba bs.length bc], osl ua uc us.length 2 231 (us.flatMap letV), osl ba bc bs.length 2 231 (bs.flatMap letV), famb (us ++ bs)] : List Res).flatMap Res.fp)) (A := [cel wb 136 [.slice ua us.length uc, .slice ba bs.length bc], osl ua uc us.length 2 231 (us.flatMap letV), osl ba bc bs.length 2 231 (bs.flatMap letV), famb (us ++ bs)]) Try.func112 rfl Try.ntmps112 rfl (a2_fr _ _) hA ?_
  have hlt : 0 < us.length → atI us.length i < us.length := fun h => atI_lt i h
  refine wpS_cap (.t .h) (fun hcapU => ?_)
  refine wpS_cap (.t (.t .h)) (fun hcapB => ?_)
  refine wpS_seq ?_
  refine wpS_region ?_
  refine s_y (v := .bool false) (y_assign rfl) rfl ?_
  refine wpL_nil ?_
  refine thenS_n ?_
  refine wpS_seq ?_
  refine wpS_region ?_
  refine s_y (v := .pointer (some ⟨wb, 0, none⟩)) (y_move rfl) rfl ?_
  refine s_y (v := .int .i64 i) (y_move rfl) rfl ?_
  refine s_y (v := .int .i64 ((((atI us.length i) : Nat) : Int))) (y_call (args := #[.pointer (some ⟨wb, 0, none⟩), .int .i64 i]) (v := .int .i64 ((((atI us.length i) : Nat) : Int))) Try.call195 (ev2 rfl rfl) (fun w hs => place1_c wb ua us.length uc i w (by omega) (own1 .h rfl w hs) (by omega))) rfl ?_
  refine s_y (v := .int .i64 ((((atI us.length i) : Nat) : Int))) (y_assign rfl) rfl ?_
  refine wpL_nil ?_
  refine thenS_n ?_
  refine wpS_seq ?_
  refine wpS_seq ?_
  refine wpS_region ?_
  refine s_y (v := .int .i64 ((((atI us.length i) : Nat) : Int))) (y_move rfl) rfl ?_
  refine s_y (v := .bool false) (y_lss (a := (((atI us.length i) : Nat) : Int)) (b := 0) (c := false) rfl rfl (decide_eq_false (by omega))) rfl ?_
  refine wpL_nil ?_
  refine thenS_n ?_
  refine wpS_cond_f rfl ?_
  refine wpS_skip ?_
  refine thenS_n ?_
  refine wpS_seq ?_
  refine wpS_region ?_
  refine s_y (v := .pointer (some ⟨wb, 0, none⟩)) (y_move rfl) rfl ?_
  refine s_y (v := .pointer (some ⟨wb, 0, none⟩)) (y_move rfl) rfl ?_
  refine s_y (v := .pointer (some ⟨wb, 0, none⟩)) (y_nilP rfl) rfl ?_
  refine s_y (v := .pointer (some ⟨wb, 0, none⟩)) (y_fieldAddr (o' := 0) rfl Try.underlying136 rfl Try.sizeOf134 (by decide) rfl) rfl ?_
  refine s_y (v := .slice ua us.length uc) (y_load1 rfl Try.isAgg134 (own1 .h rfl)) rfl ?_
  refine s_y (v := .int .i64 ((((atI us.length i) : Nat) : Int))) (y_move rfl) rfl ?_
  refine s_e rfl ?_
  refine e_call (f := 196) (args := #[.slice ua us.length uc, .int .i64 ((((atI us.length i) : Nat) : Int))]) (X := Option Addr × Nat) (A := []) (M := [cel wb 136 [.slice ua us.length uc, .slice ba bs.length bc], osl ua uc us.length 2 231 (us.flatMap letV), osl ba bc bs.length 2 231 (bs.flatMap letV), famb (us ++ bs)]) (V := slV (cutL us (atI us.length i))) (A' := fun x => [slR letV 2 231 (cutL us (atI us.length i)) x]) (C := fun x => (cutL us (atI us.length i)).length ≤ x.2) Try.call196 (ev2 rfl rfl) (.p .h (.p .h (.p .h (.p .h .nil)))) (fun w hs => (rcut_c ua us.length uc us (atI us.length i) w rfl (oslR (.t .h) w hs) (by omega) (by omega) (by omega)).cap) ?_
  rintro ⟨a_1, c_2⟩ hc3; replace hc3 : (cutL us (atI us.length i)).length ≤ c_2 := hc3
  refine s_y (v := .pointer (some ⟨wb, 0, none⟩)) (y_nilP rfl) rfl ?_
  refine s_y (v := .pointer (some ⟨wb, 0, none⟩)) (y_fieldAddr (o' := 0) rfl Try.underlying136 rfl Try.sizeOf134 (by decide) rfl) rfl ?_
  refine s_e0 ?_
  refine e_store (vs := [.slice a_1 ((cutL us (atI us.length i)).length) c_2]) (l' := [.slice a_1 ((cutL us (atI us.length i)).length) c_2, .slice ba bs.length bc]) rfl rfl rfl rfl Try.sizeOf134 (.t .h) (Nat.le_of_ble_eq_true rfl) rfl ?_
  refine wpL_nil ?_
  refine thenS_n ?_
  refine wpS_seq ?_
  refine wpS_region ?_
  refine s_y (v := .bool true) (y_assign rfl) rfl ?_
  refine wpL_nil ?_
  refine thenS_n ?_
  refine wpS_ret ?_
  refine fin1 (M := [cel wb 136 [.slice a_1 ((cutL us (atI us.length i)).length) c_2, .slice ba bs.length bc], osl a_1 c_2 ((cutL us (atI us.length i)).length) 2 231 ((cutL us (atI us.length i)).flatMap letV), osl ba bc bs.length 2 231 (bs.flatMap letV), famb ((cutL us (atI us.length i)) ++ bs)]) (v := .bool true) (.inr rfl) (.p .h (.p .h (.p (.t .h) (.w (.t .h) (famb_sub dr_sub) .nil)))) Try.results112 rfl ?_
  exact fun w' hs => ⟨((a_1, c_2), (ba, bc)), (congrArg (fun b : Bool => Ending.returned (.bool b)) (show _ = decide (0 < us.length) from (by first | exact (decide_eq_true (by omega)).symm | rfl))), by rw [show (dlU us i) = (cutL us (atI us.length i)) from (by unfold dlU; rw [if_neg (by omega)])]; exact hs⟩

theorem rdrop_c (wb : Nat) (ua : Option Addr) (uc : Nat) (ba : Option Addr) (bc : Nat) (us bs : List Let) (i : Int) (w : World) (hul : us.length ≤ 100000) (hbl : bs.length ≤ 100000) (hA : SH w (([cel wb 136 [.slice ua us.length uc, .slice ba bs.length bc], osl ua uc us.length 2 231 (us.flatMap letV), osl ba bc bs.length 2 231 (bs.flatMap letV), famb (us ++ bs)] : List Res).flatMap Res.fp) [cel wb 136 [.slice ua us.length uc, .slice ba bs.length bc], osl ua uc us.length 2 231 (us.flatMap letV), osl ba bc bs.length 2 231 (bs.flatMap letV), famb (us ++ bs)] w) : Calls Try.prog 112 #[.pointer (some ⟨wb, 0, none⟩), .int .i64 i] w (fun e w' => ∃ x : (Option Addr × Nat) × (Option Addr × Nat), e = .returned (.bool (decide (0 < us.length))) ∧ SH w (([cel wb 136 [.slice ua us.length uc, .slice ba bs.length bc], osl ua uc us.length 2 231 (us.flatMap letV), osl ba bc bs.length 2 231 (bs.flatMap letV), famb (us ++ bs)] : List Res).flatMap Res.fp) [cel wb 136 [.slice x.1.1 ((dlU us i).length) x.1.2, .slice x.2.1 bs.length x.2.2], osl x.1.1 x.1.2 ((dlU us i).length) 2 231 ((dlU us i).flatMap letV), osl x.2.1 x.2.2 bs.length 2 231 (bs.flatMap letV), famb ((dlU us i) ++ bs)] w') := by
  by_cases h : us.length = 0
  · exact rdrop0_c wb ua uc ba bc us bs i w hul hbl hA h
  · exact rdrop1_c wb ua uc ba bc us bs i w hul hbl hA (by omega)

theorem rdouble0_c (wb : Nat) (ua : Option Addr) (uc : Nat) (ba : Option Addr) (bc : Nat) (us bs : List Let) (i : Int) (w : World) (hul : us.length ≤ 100000) (hbl : bs.length ≤ 100000) (hA : SH w (([cel wb 136 [.slice ua us.length uc, .slice ba bs.length bc], osl ua uc us.length 2 231 (us.flatMap letV), osl ba bc bs.length 2 231 (bs.flatMap letV), famb (us ++ bs)] : List Res).flatMap Res.fp) [cel wb 136 [.slice ua us.length uc, .slice ba bs.length bc], osl ua uc us.length 2 231 (us.flatMap letV), osl ba bc bs.length 2 231 (bs.flatMap letV), famb (us ++ bs)] w) (h0 : us.length = 0) : Calls Try.prog 113 #[.pointer (some ⟨wb, 0, none⟩), .int .i64 i] w (fun e w' => ∃ x : (Option Addr × Nat) × (Option Addr × Nat), e = .returned (.bool (decide (0 < us.length))) ∧ SH w (([cel wb 136 [.slice ua us.length uc, .slice ba bs.length bc], osl ua uc us.length 2 231 (us.flatMap letV), osl ba bc bs.length 2 231 (bs.flatMap letV), famb (us ++ bs)] : List Res).flatMap Res.fp) [cel wb 136 [.slice x.1.1 ((dbU us i).length) x.1.2, .slice x.2.1 bs.length x.2.2], osl x.1.1 x.1.2 ((dbU us i).length) 2 231 ((dbU us i).flatMap letV), osl x.2.1 x.2.2 bs.length 2 231 (bs.flatMap letV), famb ((dbU us i) ++ bs)] w') := by
  refine calls_S (n := 28) (σ0 := (upd (upd fr0 0 (.pointer (some ⟨wb, 0, none⟩))) 1 (.int .i64 i))) (D := (([cel wb 136 [.slice ua us.length uc, .slice ba bs.length bc], osl ua uc us.length 2 231 (us.flatMap letV), osl ba bc bs.length 2 231 (bs.flatMap letV), famb (us ++ bs)] : List Res).flatMap Res.fp)) (A := [cel wb 136 [.slice ua us.length uc, .slice ba bs.length bc], osl ua uc us.length 2 231 (us.flatMap letV), osl ba bc bs.length 2 231 (bs.flatMap letV), famb (us ++ bs)]) Try.func113 rfl Try.ntmps113 rfl (a2_fr _ _) hA ?_
  have hlt : 0 < us.length → atI us.length i < us.length := fun h => atI_lt i h
  refine wpS_cap (.t .h) (fun hcapU => ?_)
  refine wpS_cap (.t (.t .h)) (fun hcapB => ?_)
  refine wpS_seq ?_
  refine wpS_region ?_
  refine s_y (v := .bool false) (y_assign rfl) rfl ?_
  refine wpL_nil ?_
  refine thenS_n ?_
  refine wpS_seq ?_
  refine wpS_region ?_
  refine s_y (v := .pointer (some ⟨wb, 0, none⟩)) (y_move rfl) rfl ?_
  refine s_y (v := .int .i64 i) (y_move rfl) rfl ?_
  refine s_y (v := .int .i64 (-1)) (y_call (args := #[.pointer (some ⟨wb, 0, none⟩), .int .i64 i]) (v := .int .i64 (-1)) Try.call195 (ev2 rfl rfl) (fun w hs => place0_c wb ua us.length uc i w (by omega) (own1 .h rfl w hs) (by omega))) rfl ?_
  refine s_y (v := .int .i64 (-1)) (y_assign rfl) rfl ?_
  refine wpL_nil ?_
  refine thenS_n ?_
  refine wpS_seq ?_
  refine wpS_seq ?_
  refine wpS_region ?_
  refine s_y (v := .int .i64 (-1)) (y_move rfl) rfl ?_
  refine s_y (v := .bool true) (y_lss (a := -1) (b := 0) (c := true) rfl rfl (by decide)) rfl ?_
  refine wpL_nil ?_
  refine thenS_n ?_
  refine wpS_cond_t rfl ?_
  refine wpS_seq ?_
  refine wpS_region ?_
  refine s_y (v := .bool false) (y_assign rfl) rfl ?_
  refine wpL_nil ?_
  refine thenS_n ?_
  refine wpS_ret ?_
  refine thenS_r ?_
  refine fin1 (M := [cel wb 136 [.slice ua us.length uc, .slice ba bs.length bc], osl ua uc us.length 2 231 (us.flatMap letV), osl ba bc bs.length 2 231 (bs.flatMap letV), famb (us ++ bs)]) (v := .bool false) (.inr rfl) (.p .h (.p .h (.p .h (.p .h .nil)))) Try.results113 rfl ?_
  exact fun w' hs => ⟨((ua, uc), (ba, bc)), (congrArg (fun b : Bool => Ending.returned (.bool b)) (show _ = decide (0 < us.length) from (by first | exact (decide_eq_false (by omega)).symm | rfl))), by rw [show (dbU us i) = us from (by unfold dbU; rw [if_pos (by omega)])]; exact hs⟩

theorem rdouble1_c (wb : Nat) (ua : Option Addr) (uc : Nat) (ba : Option Addr) (bc : Nat) (us bs : List Let) (i : Int) (w : World) (hul : us.length ≤ 100000) (hbl : bs.length ≤ 100000) (hA : SH w (([cel wb 136 [.slice ua us.length uc, .slice ba bs.length bc], osl ua uc us.length 2 231 (us.flatMap letV), osl ba bc bs.length 2 231 (bs.flatMap letV), famb (us ++ bs)] : List Res).flatMap Res.fp) [cel wb 136 [.slice ua us.length uc, .slice ba bs.length bc], osl ua uc us.length 2 231 (us.flatMap letV), osl ba bc bs.length 2 231 (bs.flatMap letV), famb (us ++ bs)] w) (h0 : 0 < us.length) : Calls Try.prog 113 #[.pointer (some ⟨wb, 0, none⟩), .int .i64 i] w (fun e w' => ∃ x : (Option Addr × Nat) × (Option Addr × Nat), e = .returned (.bool (decide (0 < us.length))) ∧ SH w (([cel wb 136 [.slice ua us.length uc, .slice ba bs.length bc], osl ua uc us.length 2 231 (us.flatMap letV), osl ba bc bs.length 2 231 (bs.flatMap letV), famb (us ++ bs)] : List Res).flatMap Res.fp) [cel wb 136 [.slice x.1.1 ((dbU us i).length) x.1.2, .slice x.2.1 bs.length x.2.2], osl x.1.1 x.1.2 ((dbU us i).length) 2 231 ((dbU us i).flatMap letV), osl x.2.1 x.2.2 bs.length 2 231 (bs.flatMap letV), famb ((dbU us i) ++ bs)] w') := by
  refine calls_S (n := 28) (σ0 := (upd (upd fr0 0 (.pointer (some ⟨wb, 0, none⟩))) 1 (.int .i64 i))) (D := (([cel wb 136 [.slice ua us.length uc, .slice ba bs.length bc], osl ua uc us.length 2 231 (us.flatMap letV), osl ba bc bs.length 2 231 (bs.flatMap letV), famb (us ++ bs)] : List Res).flatMap Res.fp)) (A := [cel wb 136 [.slice ua us.length uc, .slice ba bs.length bc], osl ua uc us.length 2 231 (us.flatMap letV), osl ba bc bs.length 2 231 (bs.flatMap letV), famb (us ++ bs)]) Try.func113 rfl Try.ntmps113 rfl (a2_fr _ _) hA ?_
  have hlt : 0 < us.length → atI us.length i < us.length := fun h => atI_lt i h
  refine wpS_cap (.t .h) (fun hcapU => ?_)
  refine wpS_cap (.t (.t .h)) (fun hcapB => ?_)
  refine wpS_seq ?_
  refine wpS_region ?_
  refine s_y (v := .bool false) (y_assign rfl) rfl ?_
  refine wpL_nil ?_
  refine thenS_n ?_
  refine wpS_seq ?_
  refine wpS_region ?_
  refine s_y (v := .pointer (some ⟨wb, 0, none⟩)) (y_move rfl) rfl ?_
  refine s_y (v := .int .i64 i) (y_move rfl) rfl ?_
  refine s_y (v := .int .i64 ((((atI us.length i) : Nat) : Int))) (y_call (args := #[.pointer (some ⟨wb, 0, none⟩), .int .i64 i]) (v := .int .i64 ((((atI us.length i) : Nat) : Int))) Try.call195 (ev2 rfl rfl) (fun w hs => place1_c wb ua us.length uc i w (by omega) (own1 .h rfl w hs) (by omega))) rfl ?_
  refine s_y (v := .int .i64 ((((atI us.length i) : Nat) : Int))) (y_assign rfl) rfl ?_
  refine wpL_nil ?_
  refine thenS_n ?_
  refine wpS_seq ?_
  refine wpS_seq ?_
  refine wpS_region ?_
  refine s_y (v := .int .i64 ((((atI us.length i) : Nat) : Int))) (y_move rfl) rfl ?_
  refine s_y (v := .bool false) (y_lss (a := (((atI us.length i) : Nat) : Int)) (b := 0) (c := false) rfl rfl (decide_eq_false (by omega))) rfl ?_
  refine wpL_nil ?_
  refine thenS_n ?_
  refine wpS_cond_f rfl ?_
  refine wpS_skip ?_
  refine thenS_n ?_
  refine wpS_seq ?_
  refine wpS_anyL [] [] (by kernel_rfl) ?_
  refine anyS_take (i := 0) rfl (by kernel_rfl) (by kernel_rfl) (by kernel_rfl) (by kernel_rfl) (Yq.of (v := .pointer (some ⟨wb, 0, none⟩)) (y_move rfl) rfl) (.nil) ?_
  refine anyS_take (i := 1) rfl (by kernel_rfl) (by kernel_rfl) (by kernel_rfl) (by kernel_rfl) (Yq.of (v := .pointer (some ⟨wb, 0, none⟩)) (y_move rfl) rfl) (.nil) ?_
  refine anyS_take (i := 2) rfl (by kernel_rfl) (by kernel_rfl) (by kernel_rfl) (by kernel_rfl) (Yq.of (v := .pointer (some ⟨wb, 0, none⟩)) (y_nilP rfl) rfl) (.nil) ?_
  refine anyS_take (i := 3) rfl (by kernel_rfl) (by kernel_rfl) (by kernel_rfl) (by kernel_rfl) (Yq.of (v := .pointer (some ⟨wb, 0, none⟩)) (y_fieldAddr (o' := 0) rfl Try.underlying136 rfl Try.sizeOf134 (by decide) rfl) rfl) (.nil) ?_
  refine anyS_take (i := 6) rfl (by kernel_rfl) (by kernel_rfl) (by kernel_rfl) (by kernel_rfl) (Yq.of (v := .pointer (some ⟨wb, 0, none⟩)) (y_move rfl) rfl) (.nil) ?_
  refine anyS_take (i := 7) rfl (by kernel_rfl) (by kernel_rfl) (by kernel_rfl) (by kernel_rfl) (Yq.of (v := .pointer (some ⟨wb, 0, none⟩)) (y_nilP rfl) rfl) (.nil) ?_
  refine anyS_take (i := 8) rfl (by kernel_rfl) (by kernel_rfl) (by kernel_rfl) (by kernel_rfl) (Yq.of (v := .pointer (some ⟨wb, 0, none⟩)) (y_fieldAddr (o' := 0) rfl Try.underlying136 rfl Try.sizeOf134 (by decide) rfl) rfl) (.nil) ?_
  refine anyS_take (i := 10) rfl (by kernel_rfl) (by kernel_rfl) (by kernel_rfl) (by kernel_rfl) (Yq.of (v := .int .i64 ((((atI us.length i) : Nat) : Int))) (y_move rfl) rfl) (.nil) ?_
  refine anyS_all (rs := [4, 9]) (by kernel_rfl) (by simp) ?_
  intro i hi1; simp only [List.mem_cons, List.not_mem_nil, or_false] at hi1; rcases hi1 with rfl | rfl
  · -- number 4 first
    refine opS_0 rfl rfl ?_
    refine OpE.y (v := .slice ua us.length uc) (y_load1 rfl Try.isAgg134 (own1 .h rfl)) ?_
    refine ⟨.inr (.nil), ?_⟩
    refine anyS_all (rs := [5, 9]) (by kernel_rfl) (by simp) ?_
    intro i hi2; simp only [List.mem_cons, List.not_mem_nil, or_false] at hi2; rcases hi2 with rfl | rfl
    · -- number 5 first
      refine opS_0 rfl rfl ?_
      refine OpE.ent (fun w hs => SH.nil0 (sz := 2) (t := 231) w hs) ?_
      refine e_appendL (enc := letV) (xs := ([] : List Let)) (ns := (us : List Let)) (zs := us) (bytes := 32) letV_len letV_one Try.underlying134 (i := Try.t231) rfl rfl rfl rfl rfl (by decide) rfl rfl (by first | rfl | omega) (by first | rfl | omega) .h (oslR (.t (.t .h))) (List.nil_append _) (by omega) (by omega) ?_
      intro a_4 c_5
      refine ⟨.inr (.nil), ?_⟩
      refine anyS_all (rs := [9]) (by kernel_rfl) (by simp) ?_
      intro i hi; obtain rfl := List.mem_singleton.1 hi; clear hi
      refine opS_0 rfl rfl ?_
      refine OpE.y (v := .slice ua us.length uc) (y_load1 rfl Try.isAgg134 (own1 (.t .h) rfl)) ?_
      refine ⟨.inr (.nil), ?_⟩
      refine anyS_all (rs := [11]) (by kernel_rfl) (by simp) ?_
      intro i hi; obtain rfl := List.mem_singleton.1 hi; clear hi
      refine opS_0 rfl rfl ?_
      refine OpE.y (v := .pointer (some ⟨aB ua, aO ua + (atI us.length i) * 2, none⟩)) (y_idx (o := (atI us.length i) * 2) rfl rfl Try.underlying134 Try.sizeOf231 (oslR (.t (.t .h))) (fl_len letV_len _) (by decide) (by omega) (by omega) (by omega)) ?_
      refine ⟨.inr (.nil), ?_⟩
      refine anyS_all (rs := [12]) (by kernel_rfl) (by simp) ?_
      intro i hi; obtain rfl := List.mem_singleton.1 hi; clear hi
      refine opS_0 rfl rfl ?_
      refine OpE.y (v := .agg #[.int .i64 ((us.getD (atI us.length i) default).to), .slice ((us.getD (atI us.length i) default).a) ((us.getD (atI us.length i) default).n) ((us.getD (atI us.length i) default).c)]) (y_loadN (vs := letV (us.getD (atI us.length i) default)) rfl Try.isAgg231 Try.sizeOf231 (rdN (oslR (.t (.t .h))) (fl_getN letV_len us (atI us.length i) (by first | omega | (simp only [List.length_set, List.length_take, List.length_drop]; done) | (simp only [List.length_set, List.length_take, List.length_drop]; omega))))) ?_
      refine ⟨.inr (.nil), ?_⟩
      refine anyS_all (rs := [13]) (by kernel_rfl) (by simp) ?_
      intro i hi; obtain rfl := List.mem_singleton.1 hi; clear hi
      refine opS_0 rfl rfl ?_
      refine e_bsliceL (e := 231) (m := [(0, .agg #[.int .i64 ((us.getD (atI us.length i) default).to), .slice ((us.getD (atI us.length i) default).a) ((us.getD (atI us.length i) default).n) ((us.getD (atI us.length i) default).c)])]) (l := [.int .i64 ((us.getD (atI us.length i) default).to), .slice ((us.getD (atI us.length i) default).a) ((us.getD (atI us.length i) default).n) ((us.getD (atI us.length i) default).c)]) (evc rfl evn) (fun w => by kernel_rfl) ?_
      intro b_6
      refine ⟨.inr (.nil), ?_⟩
      refine anyS_all (rs := [14]) (by kernel_rfl) (by simp) ?_
      intro i hi; obtain rfl := List.mem_singleton.1 hi; clear hi
      refine opS_0 rfl rfl ?_
      refine e_appendL (enc := letV) (xs := (us : List Let)) (ns := ([(us.getD (atI us.length i) default)] : List Let)) (zs := (us ++ [(us.getD (atI us.length i) default)])) (bytes := 32) letV_len letV_one Try.underlying134 (i := Try.t231) rfl rfl rfl rfl rfl (by decide) rfl rfl (by first | rfl | omega) (by first | rfl | omega) (.t .h) (fun w hs => celR .h w hs) (by first | rfl | simp) (by (try simp only [List.length_append, List.length_cons, List.length_nil] at *); omega) (by (try simp only [List.length_append, List.length_cons, List.length_nil] at *); omega) ?_
      intro a_7 c_8
      refine ⟨.inr (.nil), ?_⟩
      refine anyS_take (i := 15) rfl (by kernel_rfl) (by kernel_rfl) (by kernel_rfl) (by kernel_rfl) (Yq.of (v := .pointer (some ⟨wb, 0, none⟩)) (y_nilP rfl) rfl) (.nil) ?_
      refine anyS_take (i := 16) rfl (by kernel_rfl) (by kernel_rfl) (by kernel_rfl) (by kernel_rfl) (Yq.of (v := .pointer (some ⟨wb, 0, none⟩)) (y_fieldAddr (o' := 0) rfl Try.underlying136 rfl Try.sizeOf134 (by decide) rfl) rfl) (.nil) ?_
      refine anyS_all (rs := [17]) (by kernel_rfl) (by simp) ?_
      intro i hi; obtain rfl := List.mem_singleton.1 hi; clear hi
      refine opS_0 rfl rfl ?_
      refine e_store (vs := [.slice a_7 ((us ++ [(us.getD (atI us.length i) default)]).length) c_8]) (l' := [.slice a_7 ((us ++ [(us.getD (atI us.length i) default)]).length) c_8, .slice ba bs.length bc]) rfl rfl rfl rfl Try.sizeOf134 (.t (.t .h)) (Nat.le_of_ble_eq_true rfl) rfl ?_
      refine ⟨.inr (.nil), ?_⟩
      refine anyS_done (by kernel_rfl) ?_
      refine thenS_n ?_
      refine wpS_seq ?_
      refine wpS_region ?_
      refine s_y (v := .bool true) (y_assign rfl) rfl ?_
      refine wpL_nil ?_
      refine thenS_n ?_
      refine wpS_ret ?_
      refine fin1 (M := [cel wb 136 [.slice a_7 ((us ++ [(us.getD (atI us.length i) default)]).length) c_8, .slice ba bs.length bc], osl a_7 c_8 ((us ++ [(us.getD (atI us.length i) default)]).length) 2 231 ((us ++ [(us.getD (atI us.length i) default)]).flatMap letV), osl ba bc bs.length 2 231 (bs.flatMap letV), famb ((us ++ [(us.getD (atI us.length i) default)]) ++ bs)]) (v := .bool true) (.inr rfl) (.p .h (.p .h (.p (.t (.t .h)) (.w (.t (.t .h)) (famb_sub (db_sub (atI_lt i (by omega)))) .nil)))) Try.results113 rfl ?_
      exact fun w' hs => ⟨((a_7, c_8), (ba, bc)), (congrArg (fun b : Bool => Ending.returned (.bool b)) (show _ = decide (0 < us.length) from (by first | exact (decide_eq_true (by omega)).symm | rfl))), by rw [show (dbU us i) = (us ++ [(us.getD (atI us.length i) default)]) from (by unfold dbU; rw [if_neg (by omega)])]; exact hs⟩
    · -- number 9 first
      refine opS_0 rfl rfl ?_
      refine OpE.y (v := .slice ua us.length uc) (y_load1 rfl Try.isAgg134 (own1 .h rfl)) ?_
      refine ⟨.inr (.nil), ?_⟩
      refine anyS_all (rs := [5, 11]) (by kernel_rfl) (by simp) ?_
      intro i hi9; simp only [List.mem_cons, List.not_mem_nil, or_false] at hi9; rcases hi9 with rfl | rfl
      · -- number 5 first
        refine opS_0 rfl rfl ?_
        refine OpE.ent (fun w hs => SH.nil0 (sz := 2) (t := 231) w hs) ?_
        refine e_appendL (enc := letV) (xs := ([] : List Let)) (ns := (us : List Let)) (zs := us) (bytes := 32) letV_len letV_one Try.underlying134 (i := Try.t231) rfl rfl rfl rfl rfl (by decide) rfl rfl (by first | rfl | omega) (by first | rfl | omega) .h (oslR (.t (.t .h))) (List.nil_append _) (by omega) (by omega) ?_
        intro a_11 c_12
        refine ⟨.inr (.nil), ?_⟩
        refine anyS_all (rs := [11]) (by kernel_rfl) (by simp) ?_
        intro i hi; obtain rfl := List.mem_singleton.1 hi; clear hi
        refine opS_0 rfl rfl ?_
        refine OpE.y (v := .pointer (some ⟨aB ua, aO ua + (atI us.length i) * 2, none⟩)) (y_idx (o := (atI us.length i) * 2) rfl rfl Try.underlying134 Try.sizeOf231 (oslR (.t (.t .h))) (fl_len letV_len _) (by decide) (by omega) (by omega) (by omega)) ?_
        refine ⟨.inr (.nil), ?_⟩
        refine anyS_all (rs := [12]) (by kernel_rfl) (by simp) ?_
        intro i hi; obtain rfl := List.mem_singleton.1 hi; clear hi
        refine opS_0 rfl rfl ?_
        refine OpE.y (v := .agg #[.int .i64 ((us.getD (atI us.length i) default).to), .slice ((us.getD (atI us.length i) default).a) ((us.getD (atI us.length i) default).n) ((us.getD (atI us.length i) default).c)]) (y_loadN (vs := letV (us.getD (atI us.length i) default)) rfl Try.isAgg231 Try.sizeOf231 (rdN (oslR (.t (.t .h))) (fl_getN letV_len us (atI us.length i) (by first | omega | (simp only [List.length_set, List.length_take, List.length_drop]; done) | (simp only [List.length_set, List.length_take, List.length_drop]; omega))))) ?_
        refine ⟨.inr (.nil), ?_⟩
        refine anyS_all (rs := [13]) (by kernel_rfl) (by simp) ?_
        intro i hi; obtain rfl := List.mem_singleton.1 hi; clear hi
        refine opS_0 rfl rfl ?_
        refine e_bsliceL (e := 231) (m := [(0, .agg #[.int .i64 ((us.getD (atI us.length i) default).to), .slice ((us.getD (atI us.length i) default).a) ((us.getD (atI us.length i) default).n) ((us.getD (atI us.length i) default).c)])]) (l := [.int .i64 ((us.getD (atI us.length i) default).to), .slice ((us.getD (atI us.length i) default).a) ((us.getD (atI us.length i) default).n) ((us.getD (atI us.length i) default).c)]) (evc rfl evn) (fun w => by kernel_rfl) ?_
        intro b_13
        refine ⟨.inr (.nil), ?_⟩
        refine anyS_all (rs := [14]) (by kernel_rfl) (by simp) ?_
        intro i hi; obtain rfl := List.mem_singleton.1 hi; clear hi
        refine opS_0 rfl rfl ?_
        refine e_appendL (enc := letV) (xs := (us : List Let)) (ns := ([(us.getD (atI us.length i) default)] : List Let)) (zs := (us ++ [(us.getD (atI us.length i) default)])) (bytes := 32) letV_len letV_one Try.underlying134 (i := Try.t231) rfl rfl rfl rfl rfl (by decide) rfl rfl (by first | rfl | omega) (by first | rfl | omega) (.t .h) (fun w hs => celR .h w hs) (by first | rfl | simp) (by (try simp only [List.length_append, List.length_cons, List.length_nil] at *); omega) (by (try simp only [List.length_append, List.length_cons, List.length_nil] at *); omega) ?_
        intro a_14 c_15
        refine ⟨.inr (.nil), ?_⟩
        refine anyS_take (i := 15) rfl (by kernel_rfl) (by kernel_rfl) (by kernel_rfl) (by kernel_rfl) (Yq.of (v := .pointer (some ⟨wb, 0, none⟩)) (y_nilP rfl) rfl) (.nil) ?_
        refine anyS_take (i := 16) rfl (by kernel_rfl) (by kernel_rfl) (by kernel_rfl) (by kernel_rfl) (Yq.of (v := .pointer (some ⟨wb, 0, none⟩)) (y_fieldAddr (o' := 0) rfl Try.underlying136 rfl Try.sizeOf134 (by decide) rfl) rfl) (.nil) ?_
        refine anyS_all (rs := [17]) (by kernel_rfl) (by simp) ?_
        intro i hi; obtain rfl := List.mem_singleton.1 hi; clear hi
        refine opS_0 rfl rfl ?_
        refine e_store (vs := [.slice a_14 ((us ++ [(us.getD (atI us.length i) default)]).length) c_15]) (l' := [.slice a_14 ((us ++ [(us.getD (atI us.length i) default)]).length) c_15, .slice ba bs.length bc]) rfl rfl rfl rfl Try.sizeOf134 (.t (.t .h)) (Nat.le_of_ble_eq_true rfl) rfl ?_
        refine ⟨.inr (.nil), ?_⟩
        refine anyS_done (by kernel_rfl) ?_
        refine thenS_n ?_
        refine wpS_seq ?_
        refine wpS_region ?_
        refine s_y (v := .bool true) (y_assign rfl) rfl ?_
        refine wpL_nil ?_
        refine thenS_n ?_
        refine wpS_ret ?_
        refine fin1 (M := [cel wb 136 [.slice a_14 ((us ++ [(us.getD (atI us.length i) default)]).length) c_15, .slice ba bs.length bc], osl a_14 c_15 ((us ++ [(us.getD (atI us.length i) default)]).length) 2 231 ((us ++ [(us.getD (atI us.length i) default)]).flatMap letV), osl ba bc bs.length 2 231 (bs.flatMap letV), famb ((us ++ [(us.getD (atI us.length i) default)]) ++ bs)]) (v := .bool true) (.inr rfl) (.p .h (.p .h (.p (.t (.t .h)) (.w (.t (.t .h)) (famb_sub (db_sub (atI_lt i (by omega)))) .nil)))) Try.results113 rfl ?_
        exact fun w' hs => ⟨((a_14, c_15), (ba, bc)), (congrArg (fun b : Bool => Ending.returned (.bool b)) (show _ = decide (0 < us.length) from (by first | exact (decide_eq_true (by omega)).symm | rfl))), by rw [show (dbU us i) = (us ++ [(us.getD (atI us.length i) default)]) from (by unfold dbU; rw [if_neg (by omega)])]; exact hs⟩
      · -- number 11 first
        refine opS_0 rfl rfl ?_
        refine OpE.y (v := .pointer (some ⟨aB ua, aO ua + (atI us.length i) * 2, none⟩)) (y_idx (o := (atI us.length i) * 2) rfl rfl Try.underlying134 Try.sizeOf231 (oslR (.t .h)) (fl_len letV_len _) (by decide) (by omega) (by omega) (by omega)) ?_
        refine ⟨.inr (.nil), ?_⟩
        refine anyS_all (rs := [5, 12]) (by kernel_rfl) (by simp) ?_
        intro i hi16; simp only [List.mem_cons, List.not_mem_nil, or_false] at hi16; rcases hi16 with rfl | rfl
        · -- number 5 first
          refine opS_0 rfl rfl ?_
          refine OpE.ent (fun w hs => SH.nil0 (sz := 2) (t := 231) w hs) ?_
          refine e_appendL (enc := letV) (xs := ([] : List Let)) (ns := (us : List Let)) (zs := us) (bytes := 32) letV_len letV_one Try.underlying134 (i := Try.t231) rfl rfl rfl rfl rfl (by decide) rfl rfl (by first | rfl | omega) (by first | rfl | omega) .h (oslR (.t (.t .h))) (List.nil_append _) (by omega) (by omega) ?_
          intro a_18 c_19
          refine ⟨.inr (.nil), ?_⟩
          refine anyS_all (rs := [12]) (by kernel_rfl) (by simp) ?_
          intro i hi; obtain rfl := List.mem_singleton.1 hi; clear hi
          refine opS_0 rfl rfl ?_
          refine OpE.y (v := .agg #[.int .i64 ((us.getD (atI us.length i) default).to), .slice ((us.getD (atI us.length i) default).a) ((us.getD (atI us.length i) default).n) ((us.getD (atI us.length i) default).c)]) (y_loadN (vs := letV (us.getD (atI us.length i) default)) rfl Try.isAgg231 Try.sizeOf231 (rdN (oslR (.t (.t .h))) (fl_getN letV_len us (atI us.length i) (by first | omega | (simp only [List.length_set, List.length_take, List.length_drop]; done) | (simp only [List.length_set, List.length_take, List.length_drop]; omega))))) ?_
          refine ⟨.inr (.nil), ?_⟩
          refine anyS_all (rs := [13]) (by kernel_rfl) (by simp) ?_
          intro i hi; obtain rfl := List.mem_singleton.1 hi; clear hi
          refine opS_0 rfl rfl ?_
          refine e_bsliceL (e := 231) (m := [(0, .agg #[.int .i64 ((us.getD (atI us.length i) default).to), .slice ((us.getD (atI us.length i) default).a) ((us.getD (atI us.length i) default).n) ((us.getD (atI us.length i) default).c)])]) (l := [.int .i64 ((us.getD (atI us.length i) default).to), .slice ((us.getD (atI us.length i) default).a) ((us.getD (atI us.length i) default).n) ((us.getD (atI us.length i) default).c)]) (evc rfl evn) (fun w => by kernel_rfl) ?_
          intro b_20
          refine ⟨.inr (.nil), ?_⟩
          refine anyS_all (rs := [14]) (by kernel_rfl) (by simp) ?_
          intro i hi; obtain rfl := List.mem_singleton.1 hi; clear hi
          refine opS_0 rfl rfl ?_
          refine e_appendL (enc := letV) (xs := (us : List Let)) (ns := ([(us.getD (atI us.length i) default)] : List Let)) (zs := (us ++ [(us.getD (atI us.length i) default)])) (bytes := 32) letV_len letV_one Try.underlying134 (i := Try.t231) rfl rfl rfl rfl rfl (by decide) rfl rfl (by first | rfl | omega) (by first | rfl | omega) (.t .h) (fun w hs => celR .h w hs) (by first | rfl | simp) (by (try simp only [List.length_append, List.length_cons, List.length_nil] at *); omega) (by (try simp only [List.length_append, List.length_cons, List.length_nil] at *); omega) ?_
          intro a_21 c_22
          refine ⟨.inr (.nil), ?_⟩
          refine anyS_take (i := 15) rfl (by kernel_rfl) (by kernel_rfl) (by kernel_rfl) (by kernel_rfl) (Yq.of (v := .pointer (some ⟨wb, 0, none⟩)) (y_nilP rfl) rfl) (.nil) ?_
          refine anyS_take (i := 16) rfl (by kernel_rfl) (by kernel_rfl) (by kernel_rfl) (by kernel_rfl) (Yq.of (v := .pointer (some ⟨wb, 0, none⟩)) (y_fieldAddr (o' := 0) rfl Try.underlying136 rfl Try.sizeOf134 (by decide) rfl) rfl) (.nil) ?_
          refine anyS_all (rs := [17]) (by kernel_rfl) (by simp) ?_
          intro i hi; obtain rfl := List.mem_singleton.1 hi; clear hi
          refine opS_0 rfl rfl ?_
          refine e_store (vs := [.slice a_21 ((us ++ [(us.getD (atI us.length i) default)]).length) c_22]) (l' := [.slice a_21 ((us ++ [(us.getD (atI us.length i) default)]).length) c_22, .slice ba bs.length bc]) rfl rfl rfl rfl Try.sizeOf134 (.t (.t .h)) (Nat.le_of_ble_eq_true rfl) rfl ?_
          refine ⟨.inr (.nil), ?_⟩
          refine anyS_done (by kernel_rfl) ?_
          refine thenS_n ?_
          refine wpS_seq ?_
          refine wpS_region ?_
          refine s_y (v := .bool true) (y_assign rfl) rfl ?_
          refine wpL_nil ?_
          refine thenS_n ?_
          refine wpS_ret ?_
          refine fin1 (M := [cel wb 136 [.slice a_21 ((us ++ [(us.getD (atI us.length i) default)]).length) c_22, .slice ba bs.length bc], osl a_21 c_22 ((us ++ [(us.getD (atI us.length i) default)]).length) 2 231 ((us ++ [(us.getD (atI us.length i) default)]).flatMap letV), osl ba bc bs.length 2 231 (bs.flatMap letV), famb ((us ++ [(us.getD (atI us.length i) default)]) ++ bs)]) (v := .bool true) (.inr rfl) (.p .h (.p .h (.p (.t (.t .h)) (.w (.t (.t .h)) (famb_sub (db_sub (atI_lt i (by omega)))) .nil)))) Try.results113 rfl ?_
          exact fun w' hs => ⟨((a_21, c_22), (ba, bc)), (congrArg (fun b : Bool => Ending.returned (.bool b)) (show _ = decide (0 < us.length) from (by first | exact (decide_eq_true (by omega)).symm | rfl))), by rw [show (dbU us i) = (us ++ [(us.getD (atI us.length i) default)]) from (by unfold dbU; rw [if_neg (by omega)])]; exact hs⟩
        · -- number 12 first
          refine opS_0 rfl rfl ?_
          refine OpE.y (v := .agg #[.int .i64 ((us.getD (atI us.length i) default).to), .slice ((us.getD (atI us.length i) default).a) ((us.getD (atI us.length i) default).n) ((us.getD (atI us.length i) default).c)]) (y_loadN (vs := letV (us.getD (atI us.length i) default)) rfl Try.isAgg231 Try.sizeOf231 (rdN (oslR (.t .h)) (fl_getN letV_len us (atI us.length i) (by first | omega | (simp only [List.length_set, List.length_take, List.length_drop]; done) | (simp only [List.length_set, List.length_take, List.length_drop]; omega))))) ?_
          refine ⟨.inr (.nil), ?_⟩
          refine anyS_all (rs := [5, 13]) (by kernel_rfl) (by simp) ?_
          intro i hi23; simp only [List.mem_cons, List.not_mem_nil, or_false] at hi23; rcases hi23 with rfl | rfl
          · -- number 5 first
            refine opS_0 rfl rfl ?_
            refine OpE.ent (fun w hs => SH.nil0 (sz := 2) (t := 231) w hs) ?_
            refine e_appendL (enc := letV) (xs := ([] : List Let)) (ns := (us : List Let)) (zs := us) (bytes := 32) letV_len letV_one Try.underlying134 (i := Try.t231) rfl rfl rfl rfl rfl (by decide) rfl rfl (by first | rfl | omega) (by first | rfl | omega) .h (oslR (.t (.t .h))) (List.nil_append _) (by omega) (by omega) ?_
            intro a_25 c_26
            refine ⟨.inr (.nil), ?_⟩
            refine anyS_all (rs := [13]) (by kernel_rfl) (by simp) ?_
            intro i hi; obtain rfl := List.mem_singleton.1 hi; clear hi
            refine opS_0 rfl rfl ?_
            refine e_bsliceL (e := 231) (m := [(0, .agg #[.int .i64 ((us.getD (atI us.length i) default).to), .slice ((us.getD (atI us.length i) default).a) ((us.getD (atI us.length i) default).n) ((us.getD (atI us.length i) default).c)])]) (l := [.int .i64 ((us.getD (atI us.length i) default).to), .slice ((us.getD (atI us.length i) default).a) ((us.getD (atI us.length i) default).n) ((us.getD (atI us.length i) default).c)]) (evc rfl evn) (fun w => by kernel_rfl) ?_
            intro b_27
            refine ⟨.inr (.nil), ?_⟩
            refine anyS_all (rs := [14]) (by kernel_rfl) (by simp) ?_
            intro i hi; obtain rfl := List.mem_singleton.1 hi; clear hi
            refine opS_0 rfl rfl ?_
            refine e_appendL (enc := letV) (xs := (us : List Let)) (ns := ([(us.getD (atI us.length i) default)] : List Let)) (zs := (us ++ [(us.getD (atI us.length i) default)])) (bytes := 32) letV_len letV_one Try.underlying134 (i := Try.t231) rfl rfl rfl rfl rfl (by decide) rfl rfl (by first | rfl | omega) (by first | rfl | omega) (.t .h) (fun w hs => celR .h w hs) (by first | rfl | simp) (by (try simp only [List.length_append, List.length_cons, List.length_nil] at *); omega) (by (try simp only [List.length_append, List.length_cons, List.length_nil] at *); omega) ?_
            intro a_28 c_29
            refine ⟨.inr (.nil), ?_⟩
            refine anyS_take (i := 15) rfl (by kernel_rfl) (by kernel_rfl) (by kernel_rfl) (by kernel_rfl) (Yq.of (v := .pointer (some ⟨wb, 0, none⟩)) (y_nilP rfl) rfl) (.nil) ?_
            refine anyS_take (i := 16) rfl (by kernel_rfl) (by kernel_rfl) (by kernel_rfl) (by kernel_rfl) (Yq.of (v := .pointer (some ⟨wb, 0, none⟩)) (y_fieldAddr (o' := 0) rfl Try.underlying136 rfl Try.sizeOf134 (by decide) rfl) rfl) (.nil) ?_
            refine anyS_all (rs := [17]) (by kernel_rfl) (by simp) ?_
            intro i hi; obtain rfl := List.mem_singleton.1 hi; clear hi
            refine opS_0 rfl rfl ?_
            refine e_store (vs := [.slice a_28 ((us ++ [(us.getD (atI us.length i) default)]).length) c_29]) (l' := [.slice a_28 ((us ++ [(us.getD (atI us.length i) default)]).length) c_29, .slice ba bs.length bc]) rfl rfl rfl rfl Try.sizeOf134 (.t (.t .h)) (Nat.le_of_ble_eq_true rfl) rfl ?_
            refine ⟨.inr (.nil), ?_⟩
            refine anyS_done (by kernel_rfl) ?_
            refine thenS_n ?_
            refine wpS_seq ?_
            refine wpS_region ?_
            refine s_y (v := .bool true) (y_assign rfl) rfl ?_
            refine wpL_nil ?_
            refine thenS_n ?_
            refine wpS_ret ?_
            refine fin1 (M := [cel wb 136 [.slice a_28 ((us ++ [(us.getD (atI us.length i) default)]).length) c_29, .slice ba bs.length bc], osl a_28 c_29 ((us ++ [(us.getD (atI us.length i) default)]).length) 2 231 ((us ++ [(us.getD (atI us.length i) default)]).flatMap letV), osl ba bc bs.length 2 231 (bs.flatMap letV), famb ((us ++ [(us.getD (atI us.length i) default)]) ++ bs)]) (v := .bool true) (.inr rfl) (.p .h (.p .h (.p (.t (.t .h)) (.w (.t (.t .h)) (famb_sub (db_sub (atI_lt i (by omega)))) .nil)))) Try.results113 rfl ?_
            exact fun w' hs => ⟨((a_28, c_29), (ba, bc)), (congrArg (fun b : Bool => Ending.returned (.bool b)) (show _ = decide (0 < us.length) from (by first | exact (decide_eq_true (by omega)).symm | rfl))), by rw [show (dbU us i) = (us ++ [(us.getD (atI us.length i) default)]) from (by unfold dbU; rw [if_neg (by omega)])]; exact hs⟩
          · -- number 13 first
            refine opS_0 rfl rfl ?_
            refine e_bsliceL (e := 231) (m := [(0, .agg #[.int .i64 ((us.getD (atI us.length i) default).to), .slice ((us.getD (atI us.length i) default).a) ((us.getD (atI us.length i) default).n) ((us.getD (atI us.length i) default).c)])]) (l := [.int .i64 ((us.getD (atI us.length i) default).to), .slice ((us.getD (atI us.length i) default).a) ((us.getD (atI us.length i) default).n) ((us.getD (atI us.length i) default).c)]) (evc rfl evn) (fun w => by kernel_rfl) ?_
            intro b_30
            refine ⟨.inr (.nil), ?_⟩
            refine anyS_all (rs := [5]) (by kernel_rfl) (by simp) ?_
            intro i hi; obtain rfl := List.mem_singleton.1 hi; clear hi
            refine opS_0 rfl rfl ?_
            refine OpE.ent (fun w hs => SH.nil0 (sz := 2) (t := 231) w hs) ?_
            refine e_appendL (enc := letV) (xs := ([] : List Let)) (ns := (us : List Let)) (zs := us) (bytes := 32) letV_len letV_one Try.underlying134 (i := Try.t231) rfl rfl rfl rfl rfl (by decide) rfl rfl (by first | rfl | omega) (by first | rfl | omega) .h (oslR (.t (.t (.t .h)))) (List.nil_append _) (by omega) (by omega) ?_
            intro a_32 c_33
            refine ⟨.inr (.nil), ?_⟩
            refine anyS_all (rs := [14]) (by kernel_rfl) (by simp) ?_
            intro i hi; obtain rfl := List.mem_singleton.1 hi; clear hi
            refine opS_0 rfl rfl ?_
            refine e_appendL (enc := letV) (xs := (us : List Let)) (ns := ([(us.getD (atI us.length i) default)] : List Let)) (zs := (us ++ [(us.getD (atI us.length i) default)])) (bytes := 32) letV_len letV_one Try.underlying134 (i := Try.t231) rfl rfl rfl rfl rfl (by decide) rfl rfl (by first | rfl | omega) (by first | rfl | omega) .h (fun w hs => celR (.t .h) w hs) (by first | rfl | simp) (by (try simp only [List.length_append, List.length_cons, List.length_nil] at *); omega) (by (try simp only [List.length_append, List.length_cons, List.length_nil] at *); omega) ?_
            intro a_34 c_35
            refine ⟨.inr (.nil), ?_⟩
            refine anyS_take (i := 15) rfl (by kernel_rfl) (by kernel_rfl) (by kernel_rfl) (by kernel_rfl) (Yq.of (v := .pointer (some ⟨wb, 0, none⟩)) (y_nilP rfl) rfl) (.nil) ?_
            refine anyS_take (i := 16) rfl (by kernel_rfl) (by kernel_rfl) (by kernel_rfl) (by kernel_rfl) (Yq.of (v := .pointer (some ⟨wb, 0, none⟩)) (y_fieldAddr (o' := 0) rfl Try.underlying136 rfl Try.sizeOf134 (by decide) rfl) rfl) (.nil) ?_
            refine anyS_all (rs := [17]) (by kernel_rfl) (by simp) ?_
            intro i hi; obtain rfl := List.mem_singleton.1 hi; clear hi
            refine opS_0 rfl rfl ?_
            refine e_store (vs := [.slice a_34 ((us ++ [(us.getD (atI us.length i) default)]).length) c_35]) (l' := [.slice a_34 ((us ++ [(us.getD (atI us.length i) default)]).length) c_35, .slice ba bs.length bc]) rfl rfl rfl rfl Try.sizeOf134 (.t (.t .h)) (Nat.le_of_ble_eq_true rfl) rfl ?_
            refine ⟨.inr (.nil), ?_⟩
            refine anyS_done (by kernel_rfl) ?_
            refine thenS_n ?_
            refine wpS_seq ?_
            refine wpS_region ?_
            refine s_y (v := .bool true) (y_assign rfl) rfl ?_
            refine wpL_nil ?_
            refine thenS_n ?_
            refine wpS_ret ?_
            refine fin1 (M := [cel wb 136 [.slice a_34 ((us ++ [(us.getD (atI us.length i) default)]).length) c_35, .slice ba bs.length bc], osl a_34 c_35 ((us ++ [(us.getD (atI us.length i) default)]).length) 2 231 ((us ++ [(us.getD (atI us.length i) default)]).flatMap letV), osl ba bc bs.length 2 231 (bs.flatMap letV), famb ((us ++ [(us.getD (atI us.length i) default)]) ++ bs)]) (v := .bool true) (.inr rfl) (.p .h (.p .h (.p (.t (.t .h)) (.w (.t (.t .h)) (famb_sub (db_sub (atI_lt i (by omega)))) .nil)))) Try.results113 rfl ?_
            exact fun w' hs => ⟨((a_34, c_35), (ba, bc)), (congrArg (fun b : Bool => Ending.returned (.bool b)) (show _ = decide (0 < us.length) from (by first | exact (decide_eq_true (by omega)).symm | rfl))), by rw [show (dbU us i) = (us ++ [(us.getD (atI us.length i) default)]) from (by unfold dbU; rw [if_neg (by omega)])]; exact hs⟩
  · -- number 9 first
    refine opS_0 rfl rfl ?_
    refine OpE.y (v := .slice ua us.length uc) (y_load1 rfl Try.isAgg134 (own1 .h rfl)) ?_
    refine ⟨.inr (.nil), ?_⟩
    refine anyS_all (rs := [4, 11]) (by kernel_rfl) (by simp) ?_
    intro i hi36; simp only [List.mem_cons, List.not_mem_nil, or_false] at hi36; rcases hi36 with rfl | rfl
    · -- number 4 first
      refine opS_0 rfl rfl ?_
      refine OpE.y (v := .slice ua us.length uc) (y_load1 rfl Try.isAgg134 (own1 .h rfl)) ?_
      refine ⟨.inr (.nil), ?_⟩
      refine anyS_all (rs := [5, 11]) (by kernel_rfl) (by simp) ?_
      intro i hi37; simp only [List.mem_cons, List.not_mem_nil, or_false] at hi37; rcases hi37 with rfl | rfl
      · -- number 5 first
        refine opS_0 rfl rfl ?_
        refine OpE.ent (fun w hs => SH.nil0 (sz := 2) (t := 231) w hs) ?_
        refine e_appendL (enc := letV) (xs := ([] : List Let)) (ns := (us : List Let)) (zs := us) (bytes := 32) letV_len letV_one Try.underlying134 (i := Try.t231) rfl rfl rfl rfl rfl (by decide) rfl rfl (by first | rfl | omega) (by first | rfl | omega) .h (oslR (.t (.t .h))) (List.nil_append _) (by omega) (by omega) ?_
        intro a_39 c_40
        refine ⟨.inr (.nil), ?_⟩
        refine anyS_all (rs := [11]) (by kernel_rfl) (by simp) ?_
        intro i hi; obtain rfl := List.mem_singleton.1 hi; clear hi
        refine opS_0 rfl rfl ?_
        refine OpE.y (v := .pointer (some ⟨aB ua, aO ua + (atI us.length i) * 2, none⟩)) (y_idx (o := (atI us.length i) * 2) rfl rfl Try.underlying134 Try.sizeOf231 (oslR (.t (.t .h))) (fl_len letV_len _) (by decide) (by omega) (by omega) (by omega)) ?_
        refine ⟨.inr (.nil), ?_⟩
        refine anyS_all (rs := [12]) (by kernel_rfl) (by simp) ?_
        intro i hi; obtain rfl := List.mem_singleton.1 hi; clear hi
        refine opS_0 rfl rfl ?_
        refine OpE.y (v := .agg #[.int .i64 ((us.getD (atI us.length i) default).to), .slice ((us.getD (atI us.length i) default).a) ((us.getD (atI us.length i) default).n) ((us.getD (atI us.length i) default).c)]) (y_loadN (vs := letV (us.getD (atI us.length i) default)) rfl Try.isAgg231 Try.sizeOf231 (rdN (oslR (.t (.t .h))) (fl_getN letV_len us (atI us.length i) (by first | omega | (simp only [List.length_set, List.length_take, List.length_drop]; done) | (simp only [List.length_set, List.length_take, List.length_drop]; omega))))) ?_
        refine ⟨.inr (.nil), ?_⟩
        refine anyS_all (rs := [13]) (by kernel_rfl) (by simp) ?_
        intro i hi; obtain rfl := List.mem_singleton.1 hi; clear hi
        refine opS_0 rfl rfl ?_
        refine e_bsliceL (e := 231) (m := [(0, .agg #[.int .i64 ((us.getD (atI us.length i) default).to), .slice ((us.getD (atI us.length i) default).a) ((us.getD (atI us.length i) default).n) ((us.getD (atI us.length i) default).c)])]) (l := [.int .i64 ((us.getD (atI us.length i) default).to), .slice ((us.getD (atI us.length i) default).a) ((us.getD (atI us.length i) default).n) ((us.getD (atI us.length i) default).c)]) (evc rfl evn) (fun w => by kernel_rfl) ?_
        intro b_41
        refine ⟨.inr (.nil), ?_⟩
        refine anyS_all (rs := [14]) (by kernel_rfl) (by simp) ?_
        intro i hi; obtain rfl := List.mem_singleton.1 hi; clear hi
        refine opS_0 rfl rfl ?_
        refine e_appendL (enc := letV) (xs := (us : List Let)) (ns := ([(us.getD (atI us.length i) default)] : List Let)) (zs := (us ++ [(us.getD (atI us.length i) default)])) (bytes := 32) letV_len letV_one Try.underlying134 (i := Try.t231) rfl rfl rfl rfl rfl (by decide) rfl rfl (by first | rfl | omega) (by first | rfl | omega) (.t .h) (fun w hs => celR .h w hs) (by first | rfl | simp) (by (try simp only [List.length_append, List.length_cons, List.length_nil] at *); omega) (by (try simp only [List.length_append, List.length_cons, List.length_nil] at *); omega) ?_
        intro a_42 c_43
        refine ⟨.inr (.nil), ?_⟩
        refine anyS_take (i := 15) rfl (by kernel_rfl) (by kernel_rfl) (by kernel_rfl) (by kernel_rfl) (Yq.of (v := .pointer (some ⟨wb, 0, none⟩)) (y_nilP rfl) rfl) (.nil) ?_
        refine anyS_take (i := 16) rfl (by kernel_rfl) (by kernel_rfl) (by kernel_rfl) (by kernel_rfl) (Yq.of (v := .pointer (some ⟨wb, 0, none⟩)) (y_fieldAddr (o' := 0) rfl Try.underlying136 rfl Try.sizeOf134 (by decide) rfl) rfl) (.nil) ?_
        refine anyS_all (rs := [17]) (by kernel_rfl) (by simp) ?_
        intro i hi; obtain rfl := List.mem_singleton.1 hi; clear hi
        refine opS_0 rfl rfl ?_
        refine e_store (vs := [.slice a_42 ((us ++ [(us.getD (atI us.length i) default)]).length) c_43]) (l' := [.slice a_42 ((us ++ [(us.getD (atI us.length i) default)]).length) c_43, .slice ba bs.length bc]) rfl rfl rfl rfl Try.sizeOf134 (.t (.t .h)) (Nat.le_of_ble_eq_true rfl) rfl ?_
        refine ⟨.inr (.nil), ?_⟩
        refine anyS_done (by kernel_rfl) ?_
        refine thenS_n ?_
        refine wpS_seq ?_
        refine wpS_region ?_
        refine s_y (v := .bool true) (y_assign rfl) rfl ?_
        refine wpL_nil ?_
        refine thenS_n ?_
        refine wpS_ret ?_
        refine fin1 (M := [cel wb 136 [.slice a_42 ((us ++ [(us.getD (atI us.length i) default)]).length) c_43, .slice ba bs.length bc], osl a_42 c_43 ((us ++ [(us.getD (atI us.length i) default)]).length) 2 231 ((us ++ [(us.getD (atI us.length i) default)]).flatMap letV), osl ba bc bs.length 2 231 (bs.flatMap letV), famb ((us ++ [(us.getD (atI us.length i) default)]) ++ bs)]) (v := .bool true) (.inr rfl) (.p .h (.p .h (.p (.t (.t .h)) (.w (.t (.t .h)) (famb_sub (db_sub (atI_lt i (by omega)))) .nil)))) Try.results113 rfl ?_
        exact fun w' hs => ⟨((a_42, c_43), (ba, bc)), (congrArg (fun b : Bool => Ending.returned (.bool b)) (show _ = decide (0 < us.length) from (by first | exact (decide_eq_true (by omega)).symm | rfl))), by rw [show (dbU us i) = (us ++ [(us.getD (atI us.length i) default)]) from (by unfold dbU; rw [if_neg (by omega)])]; exact hs⟩
      · -- number 11 first
        refine opS_0 rfl rfl ?_
        refine OpE.y (v := .pointer (some ⟨aB ua, aO ua + (atI us.length i) * 2, none⟩)) (y_idx (o := (atI us.length i) * 2) rfl rfl Try.underlying134 Try.sizeOf231 (oslR (.t .h)) (fl_len letV_len _) (by decide) (by omega) (by omega) (by omega)) ?_
        refine ⟨.inr (.nil), ?_⟩
        refine anyS_all (rs := [5, 12]) (by kernel_rfl) (by simp) ?_
        intro i hi44; simp only [List.mem_cons, List.not_mem_nil, or_false] at hi44; rcases hi44 with rfl | rfl
        · -- number 5 first
          refine opS_0 rfl rfl ?_
          refine OpE.ent (fun w hs => SH.nil0 (sz := 2) (t := 231) w hs) ?_
          refine e_appendL (enc := letV) (xs := ([] : List Let)) (ns := (us : List Let)) (zs := us) (bytes := 32) letV_len letV_one Try.underlying134 (i := Try.t231) rfl rfl rfl rfl rfl (by decide) rfl rfl (by first | rfl | omega) (by first | rfl | omega) .h (oslR (.t (.t .h))) (List.nil_append _) (by omega) (by omega) ?_
          intro a_46 c_47
          refine ⟨.inr (.nil), ?_⟩
          refine anyS_all (rs := [12]) (by kernel_rfl) (by simp) ?_
          intro i hi; obtain rfl := List.mem_singleton.1 hi; clear hi
          refine opS_0 rfl rfl ?_
          refine OpE.y (v := .agg #[.int .i64 ((us.getD (atI us.length i) default).to), .slice ((us.getD (atI us.length i) default).a) ((us.getD (atI us.length i) default).n) ((us.getD (atI us.length i) default).c)]) (y_loadN (vs := letV (us.getD (atI us.length i) default)) rfl Try.isAgg231 Try.sizeOf231 (rdN (oslR (.t (.t .h))) (fl_getN letV_len us (atI us.length i) (by first | omega | (simp only [List.length_set, List.length_take, List.length_drop]; done) | (simp only [List.length_set, List.length_take, List.length_drop]; omega))))) ?_
          refine ⟨.inr (.nil), ?_⟩
          refine anyS_all (rs := [13]) (by kernel_rfl) (by simp) ?_
          intro i hi; obtain rfl := List.mem_singleton.1 hi; clear hi
          refine opS_0 rfl rfl ?_
          refine e_bsliceL (e := 231) (m := [(0, .agg #[.int .i64 ((us.getD (atI us.length i) default).to), .slice ((us.getD (atI us.length i) default).a) ((us.getD (atI us.length i) default).n) ((us.getD (atI us.length i) default).c)])]) (l := [.int .i64 ((us.getD (atI us.length i) default).to), .slice ((us.getD (atI us.length i) default).a) ((us.getD (atI us.length i) default).n) ((us.getD (atI us.length i) default).c)]) (evc rfl evn) (fun w => by kernel_rfl) ?_
          intro b_48
          refine ⟨.inr (.nil), ?_⟩
          refine anyS_all (rs := [14]) (by kernel_rfl) (by simp) ?_
          intro i hi; obtain rfl := List.mem_singleton.1 hi; clear hi
          refine opS_0 rfl rfl ?_
          refine e_appendL (enc := letV) (xs := (us : List Let)) (ns := ([(us.getD (atI us.length i) default)] : List Let)) (zs := (us ++ [(us.getD (atI us.length i) default)])) (bytes := 32) letV_len letV_one Try.underlying134 (i := Try.t231) rfl rfl rfl rfl rfl (by decide) rfl rfl (by first | rfl | omega) (by first | rfl | omega) (.t .h) (fun w hs => celR .h w hs) (by first | rfl | simp) (by (try simp only [List.length_append, List.length_cons, List.length_nil] at *); omega) (by (try simp only [List.length_append, List.length_cons, List.length_nil] at *); omega) ?_
          intro a_49 c_50
          refine ⟨.inr (.nil), ?_⟩
          refine anyS_take (i := 15) rfl (by kernel_rfl) (by kernel_rfl) (by kernel_rfl) (by kernel_rfl) (Yq.of (v := .pointer (some ⟨wb, 0, none⟩)) (y_nilP rfl) rfl) (.nil) ?_
          refine anyS_take (i := 16) rfl (by kernel_rfl) (by kernel_rfl) (by kernel_rfl) (by kernel_rfl) (Yq.of (v := .pointer (some ⟨wb, 0, none⟩)) (y_fieldAddr (o' := 0) rfl Try.underlying136 rfl Try.sizeOf134 (by decide) rfl) rfl) (.nil) ?_
          refine anyS_all (rs := [17]) (by kernel_rfl) (by simp) ?_
          intro i hi; obtain rfl := List.mem_singleton.1 hi; clear hi
          refine opS_0 rfl rfl ?_
          refine e_store (vs := [.slice a_49 ((us ++ [(us.getD (atI us.length i) default)]).length) c_50]) (l' := [.slice a_49 ((us ++ [(us.getD (atI us.length i) default)]).length) c_50, .slice ba bs.length bc]) rfl rfl rfl rfl Try.sizeOf134 (.t (.t .h)) (Nat.le_of_ble_eq_true rfl) rfl ?_
          refine ⟨.inr (.nil), ?_⟩
          refine anyS_done (by kernel_rfl) ?_
          refine thenS_n ?_
          refine wpS_seq ?_
          refine wpS_region ?_
          refine s_y (v := .bool true) (y_assign rfl) rfl ?_
          refine wpL_nil ?_
          refine thenS_n ?_
          refine wpS_ret ?_
          refine fin1 (M := [cel wb 136 [.slice a_49 ((us ++ [(us.getD (atI us.length i) default)]).length) c_50, .slice ba bs.length bc], osl a_49 c_50 ((us ++ [(us.getD (atI us.length i) default)]).length) 2 231 ((us ++ [(us.getD (atI us.length i) default)]).flatMap letV), osl ba bc bs.length 2 231 (bs.flatMap letV), famb ((us ++ [(us.getD (atI us.length i) default)]) ++ bs)]) (v := .bool true) (.inr rfl) (.p .h (.p .h (.p (.t (.t .h)) (.w (.t (.t .h)) (famb_sub (db_sub (atI_lt i (by omega)))) .nil)))) Try.results113 rfl ?_
          exact fun w' hs => ⟨((a_49, c_50), (ba, bc)), (congrArg (fun b : Bool => Ending.returned (.bool b)) (show _ = decide (0 < us.length) from (by first | exact (decide_eq_true (by omega)).symm | rfl))), by rw [show (dbU us i) = (us ++ [(us.getD (atI us.length i) default)]) from (by unfold dbU; rw [if_neg (by omega)])]; exact hs⟩
        · -- number 12 first
          refine opS_0 rfl rfl ?_
          refine OpE.y (v := .agg #[.int .i64 ((us.getD (atI us.length i) default).to), .slice ((us.getD (atI us.length i) default).a) ((us.getD (atI us.length i) default).n) ((us.getD (atI us.length i) default).c)]) (y_loadN (vs := letV (us.getD (atI us.length i) default)) rfl Try.isAgg231 Try.sizeOf231 (rdN (oslR (.t .h)) (fl_getN letV_len us (atI us.length i) (by first | omega | (simp only [List.length_set, List.length_take, List.length_drop]; done) | (simp only [List.length_set, List.length_take, List.length_drop]; omega))))) ?_
          refine ⟨.inr (.nil), ?_⟩
          refine anyS_all (rs := [5, 13]) (by kernel_rfl) (by simp) ?_
          intro i hi51; simp only [List.mem_cons, List.not_mem_nil, or_false] at hi51; rcases hi51 with rfl | rfl
          · -- number 5 first
            refine opS_0 rfl rfl ?_
            refine OpE.ent (fun w hs => SH.nil0 (sz := 2) (t := 231) w hs) ?_
            refine e_appendL (enc := letV) (xs := ([] : List Let)) (ns := (us : List Let)) (zs := us) (bytes := 32) letV_len letV_one Try.underlying134 (i := Try.t231) rfl rfl rfl rfl rfl (by decide) rfl rfl (by first | rfl | omega) (by first | rfl | omega) .h (oslR (.t (.t .h))) (List.nil_append _) (by omega) (by omega) ?_
            intro a_53 c_54
            refine ⟨.inr (.nil), ?_⟩
            refine anyS_all (rs := [13]) (by kernel_rfl) (by simp) ?_
            intro i hi; obtain rfl := List.mem_singleton.1 hi; clear hi
            refine opS_0 rfl rfl ?_
            refine e_bsliceL (e := 231) (m := [(0, .agg #[.int .i64 ((us.getD (atI us.length i) default).to), .slice ((us.getD (atI us.length i) default).a) ((us.getD (atI us.length i) default).n) ((us.getD (atI us.length i) default).c)])]) (l := [.int .i64 ((us.getD (atI us.length i) default).to), .slice ((us.getD (atI us.length i) default).a) ((us.getD (atI us.length i) default).n) ((us.getD (atI us.length i) default).c)]) (evc rfl evn) (fun w => by kernel_rfl) ?_
            intro b_55
            refine ⟨.inr (.nil), ?_⟩
            refine anyS_all (rs := [14]) (by kernel_rfl) (by simp) ?_
            intro i hi; obtain rfl := List.mem_singleton.1 hi; clear hi
            refine opS_0 rfl rfl ?_
            refine e_appendL (enc := letV) (xs := (us : List Let)) (ns := ([(us.getD (atI us.length i) default)] : List Let)) (zs := (us ++ [(us.getD (atI us.length i) default)])) (bytes := 32) letV_len letV_one Try.underlying134 (i := Try.t231) rfl rfl rfl rfl rfl (by decide) rfl rfl (by first | rfl | omega) (by first | rfl | omega) (.t .h) (fun w hs => celR .h w hs) (by first | rfl | simp) (by (try simp only [List.length_append, List.length_cons, List.length_nil] at *); omega) (by (try simp only [List.length_append, List.length_cons, List.length_nil] at *); omega) ?_
            intro a_56 c_57
            refine ⟨.inr (.nil), ?_⟩
            refine anyS_take (i := 15) rfl (by kernel_rfl) (by kernel_rfl) (by kernel_rfl) (by kernel_rfl) (Yq.of (v := .pointer (some ⟨wb, 0, none⟩)) (y_nilP rfl) rfl) (.nil) ?_
            refine anyS_take (i := 16) rfl (by kernel_rfl) (by kernel_rfl) (by kernel_rfl) (by kernel_rfl) (Yq.of (v := .pointer (some ⟨wb, 0, none⟩)) (y_fieldAddr (o' := 0) rfl Try.underlying136 rfl Try.sizeOf134 (by decide) rfl) rfl) (.nil) ?_
            refine anyS_all (rs := [17]) (by kernel_rfl) (by simp) ?_
            intro i hi; obtain rfl := List.mem_singleton.1 hi; clear hi
            refine opS_0 rfl rfl ?_
            refine e_store (vs := [.slice a_56 ((us ++ [(us.getD (atI us.length i) default)]).length) c_57]) (l' := [.slice a_56 ((us ++ [(us.getD (atI us.length i) default)]).length) c_57, .slice ba bs.length bc]) rfl rfl rfl rfl Try.sizeOf134 (.t (.t .h)) (Nat.le_of_ble_eq_true rfl) rfl ?_
            refine ⟨.inr (.nil), ?_⟩
            refine anyS_done (by kernel_rfl) ?_
            refine thenS_n ?_
            refine wpS_seq ?_
            refine wpS_region ?_
            refine s_y (v := .bool true) (y_assign rfl) rfl ?_
            refine wpL_nil ?_
            refine thenS_n ?_
            refine wpS_ret ?_
            refine fin1 (M := [cel wb 136 [.slice a_56 ((us ++ [(us.getD (atI us.length i) default)]).length) c_57, .slice ba bs.length bc], osl a_56 c_57 ((us ++ [(us.getD (atI us.length i) default)]).length) 2 231 ((us ++ [(us.getD (atI us.length i) default)]).flatMap letV), osl ba bc bs.length 2 231 (bs.flatMap letV), famb ((us ++ [(us.getD (atI us.length i) default)]) ++ bs)]) (v := .bool true) (.inr rfl) (.p .h (.p .h (.p (.t (.t .h)) (.w (.t (.t .h)) (famb_sub (db_sub (atI_lt i (by omega)))) .nil)))) Try.results113 rfl ?_
            exact fun w' hs => ⟨((a_56, c_57), (ba, bc)), (congrArg (fun b : Bool => Ending.returned (.bool b)) (show _ = decide (0 < us.length) from (by first | exact (decide_eq_true (by omega)).symm | rfl))), by rw [show (dbU us i) = (us ++ [(us.getD (atI us.length i) default)]) from (by unfold dbU; rw [if_neg (by omega)])]; exact hs⟩
          · -- number 13 first
            refine opS_0 rfl rfl ?_
            refine e_bsliceL (e := 231) (m := [(0, .agg #[.int .i64 ((us.getD (atI us.length i) default).to), .slice ((us.getD (atI us.length i) default).a) ((us.getD (atI us.length i) default).n) ((us.getD (atI us.length i) default).c)])]) (l := [.int .i64 ((us.getD (atI us.length i) default).to), .slice ((us.getD (atI us.length i) default).a) ((us.getD (atI us.length i) default).n) ((us.getD (atI us.length i) default).c)]) (evc rfl evn) (fun w => by kernel_rfl) ?_
            intro b_58
            refine ⟨.inr (.nil), ?_⟩
            refine anyS_all (rs := [5]) (by kernel_rfl) (by simp) ?_
            intro i hi; obtain rfl := List.mem_singleton.1 hi; clear hi
            refine opS_0 rfl rfl ?_
            refine OpE.ent (fun w hs => SH.nil0 (sz := 2) (t := 231) w hs) ?_
            refine e_appendL (enc := letV) (xs := ([] : List Let)) (ns := (us : List Let)) (zs := us) (bytes := 32) letV_len letV_one Try.underlying134 (i := Try.t231) rfl rfl rfl rfl rfl (by decide) rfl rfl (by first | rfl | omega) (by first | rfl | omega) .h (oslR (.t (.t (.t .h)))) (List.nil_append _) (by omega) (by omega) ?_
            intro a_60 c_61
            refine ⟨.inr (.nil), ?_⟩
            refine anyS_all (rs := [14]) (by kernel_rfl) (by simp) ?_
            intro i hi; obtain rfl := List.mem_singleton.1 hi; clear hi
            refine opS_0 rfl rfl ?_
            refine e_appendL (enc := letV) (xs := (us : List Let)) (ns := ([(us.getD (atI us.length i) default)] : List Let)) (zs := (us ++ [(us.getD (atI us.length i) default)])) (bytes := 32) letV_len letV_one Try.underlying134 (i := Try.t231) rfl rfl rfl rfl rfl (by decide) rfl rfl (by first | rfl | omega) (by first | rfl | omega) .h (fun w hs => celR (.t .h) w hs) (by first | rfl | simp) (by (try simp only [List.length_append, List.length_cons, List.length_nil] at *); omega) (by (try simp only [List.length_append, List.length_cons, List.length_nil] at *); omega) ?_
            intro a_62 c_63
            refine ⟨.inr (.nil), ?_⟩
            refine anyS_take (i := 15) rfl (by kernel_rfl) (by kernel_rfl) (by kernel_rfl) (by kernel_rfl) (Yq.of (v := .pointer (some ⟨wb, 0, none⟩)) (y_nilP rfl) rfl) (.nil) ?_
            refine anyS_take (i := 16) rfl (by kernel_rfl) (by kernel_rfl) (by kernel_rfl) (by kernel_rfl) (Yq.of (v := .pointer (some ⟨wb, 0, none⟩)) (y_fieldAddr (o' := 0) rfl Try.underlying136 rfl Try.sizeOf134 (by decide) rfl) rfl) (.nil) ?_
            refine anyS_all (rs := [17]) (by kernel_rfl) (by simp) ?_
            intro i hi; obtain rfl := List.mem_singleton.1 hi; clear hi
            refine opS_0 rfl rfl ?_
            refine e_store (vs := [.slice a_62 ((us ++ [(us.getD (atI us.length i) default)]).length) c_63]) (l' := [.slice a_62 ((us ++ [(us.getD (atI us.length i) default)]).length) c_63, .slice ba bs.length bc]) rfl rfl rfl rfl Try.sizeOf134 (.t (.t .h)) (Nat.le_of_ble_eq_true rfl) rfl ?_
            refine ⟨.inr (.nil), ?_⟩
            refine anyS_done (by kernel_rfl) ?_
            refine thenS_n ?_
            refine wpS_seq ?_
            refine wpS_region ?_
            refine s_y (v := .bool true) (y_assign rfl) rfl ?_
            refine wpL_nil ?_
            refine thenS_n ?_
            refine wpS_ret ?_
            refine fin1 (M := [cel wb 136 [.slice a_62 ((us ++ [(us.getD (atI us.length i) default)]).length) c_63, .slice ba bs.length bc], osl a_62 c_63 ((us ++ [(us.getD (atI us.length i) default)]).length) 2 231 ((us ++ [(us.getD (atI us.length i) default)]).flatMap letV), osl ba bc bs.length 2 231 (bs.flatMap letV), famb ((us ++ [(us.getD (atI us.length i) default)]) ++ bs)]) (v := .bool true) (.inr rfl) (.p .h (.p .h (.p (.t (.t .h)) (.w (.t (.t .h)) (famb_sub (db_sub (atI_lt i (by omega)))) .nil)))) Try.results113 rfl ?_
            exact fun w' hs => ⟨((a_62, c_63), (ba, bc)), (congrArg (fun b : Bool => Ending.returned (.bool b)) (show _ = decide (0 < us.length) from (by first | exact (decide_eq_true (by omega)).symm | rfl))), by rw [show (dbU us i) = (us ++ [(us.getD (atI us.length i) default)]) from (by unfold dbU; rw [if_neg (by omega)])]; exact hs⟩
    · -- number 11 first
      refine opS_0 rfl rfl ?_
      refine OpE.y (v := .pointer (some ⟨aB ua, aO ua + (atI us.length i) * 2, none⟩)) (y_idx (o := (atI us.length i) * 2) rfl rfl Try.underlying134 Try.sizeOf231 (oslR (.t .h)) (fl_len letV_len _) (by decide) (by omega) (by omega) (by omega)) ?_
      refine ⟨.inr (.nil), ?_⟩
      refine anyS_all (rs := [4, 12]) (by kernel_rfl) (by simp) ?_
      intro i hi64; simp only [List.mem_cons, List.not_mem_nil, or_false] at hi64; rcases hi64 with rfl | rfl
      · -- number 4 first
        refine opS_0 rfl rfl ?_
        refine OpE.y (v := .slice ua us.length uc) (y_load1 rfl Try.isAgg134 (own1 .h rfl)) ?_
        refine ⟨.inr (.nil), ?_⟩
        refine anyS_all (rs := [5, 12]) (by kernel_rfl) (by simp) ?_
        intro i hi65; simp only [List.mem_cons, List.not_mem_nil, or_false] at hi65; rcases hi65 with rfl | rfl
        · -- number 5 first
          refine opS_0 rfl rfl ?_
          refine OpE.ent (fun w hs => SH.nil0 (sz := 2) (t := 231) w hs) ?_
          refine e_appendL (enc := letV) (xs := ([] : List Let)) (ns := (us : List Let)) (zs := us) (bytes := 32) letV_len letV_one Try.underlying134 (i := Try.t231) rfl rfl rfl rfl rfl (by decide) rfl rfl (by first | rfl | omega) (by first | rfl | omega) .h (oslR (.t (.t .h))) (List.nil_append _) (by omega) (by omega) ?_
          intro a_67 c_68
          refine ⟨.inr (.nil), ?_⟩
          refine anyS_all (rs := [12]) (by kernel_rfl) (by simp) ?_
          intro i hi; obtain rfl := List.mem_singleton.1 hi; clear hi
          refine opS_0 rfl rfl ?_
          refine OpE.y (v := .agg #[.int .i64 ((us.getD (atI us.length i) default).to), .slice ((us.getD (atI us.length i) default).a) ((us.getD (atI us.length i) default).n) ((us.getD (atI us.length i) default).c)]) (y_loadN (vs := letV (us.getD (atI us.length i) default)) rfl Try.isAgg231 Try.sizeOf231 (rdN (oslR (.t (.t .h))) (fl_getN letV_len us (atI us.length i) (by first | omega | (simp only [List.length_set, List.length_take, List.length_drop]; done) | (simp only [List.length_set, List.length_take, List.length_drop]; omega))))) ?_
          refine ⟨.inr (.nil), ?_⟩
          refine anyS_all (rs := [13]) (by kernel_rfl) (by simp) ?_
          intro i hi; obtain rfl := List.mem_singleton.1 hi; clear hi
          refine opS_0 rfl rfl ?_
          refine e_bsliceL (e := 231) (m := [(0, .agg #[.int .i64 ((us.getD (atI us.length i) default).to), .slice ((us.getD (atI us.length i) default).a) ((us.getD (atI us.length i) default).n) ((us.getD (atI us.length i) default).c)])]) (l := [.int .i64 ((us.getD (atI us.length i) default).to), .slice ((us.getD (atI us.length i) default).a) ((us.getD (atI us.length i) default).n) ((us.getD (atI us.length i) default).c)]) (evc rfl evn) (fun w => by kernel_rfl) ?_
          intro b_69
          refine ⟨.inr (.nil), ?_⟩
          refine anyS_all (rs := [14]) (by kernel_rfl) (by simp) ?_
          intro i hi; obtain rfl := List.mem_singleton.1 hi; clear hi
          refine opS_0 rfl rfl ?_
          refine e_appendL (enc := letV) (xs := (us : List Let)) (ns := ([(us.getD (atI us.length i) default)] : List Let)) (zs := (us ++ [(us.getD (atI us.length i) default)])) (bytes := 32) letV_len letV_one Try.underlying134 (i := Try.t231) rfl rfl rfl rfl rfl (by decide) rfl rfl (by first | rfl | omega) (by first | rfl | omega) (.t .h) (fun w hs => celR .h w hs) (by first | rfl | simp) (by (try simp only [List.length_append, List.length_cons, List.length_nil] at *); omega) (by (try simp only [List.length_append, List.length_cons, List.length_nil] at *); omega) ?_
          intro a_70 c_71
          refine ⟨.inr (.nil), ?_⟩
          refine anyS_take (i := 15) rfl (by kernel_rfl) (by kernel_rfl) (by kernel_rfl) (by kernel_rfl) (Yq.of (v := .pointer (some ⟨wb, 0, none⟩)) (y_nilP rfl) rfl) (.nil) ?_
          refine anyS_take (i := 16) rfl (by kernel_rfl) (by kernel_rfl) (by kernel_rfl) (by kernel_rfl) (Yq.of (v := .pointer (some ⟨wb, 0, none⟩)) (y_fieldAddr (o' := 0) rfl Try.underlying136 rfl Try.sizeOf134 (by decide) rfl) rfl) (.nil) ?_
          refine anyS_all (rs := [17]) (by kernel_rfl) (by simp) ?_
          intro i hi; obtain rfl := List.mem_singleton.1 hi; clear hi
          refine opS_0 rfl rfl ?_
          refine e_store (vs := [.slice a_70 ((us ++ [(us.getD (atI us.length i) default)]).length) c_71]) (l' := [.slice a_70 ((us ++ [(us.getD (atI us.length i) default)]).length) c_71, .slice ba bs.length bc]) rfl rfl rfl rfl Try.sizeOf134 (.t (.t .h)) (Nat.le_of_ble_eq_true rfl) rfl ?_
          refine ⟨.inr (.nil), ?_⟩
          refine anyS_done (by kernel_rfl) ?_
          refine thenS_n ?_
          refine wpS_seq ?_
          refine wpS_region ?_
          refine s_y (v := .bool true) (y_assign rfl) rfl ?_
          refine wpL_nil ?_
          refine thenS_n ?_
          refine wpS_ret ?_
          refine fin1 (M := [cel wb 136 [.slice a_70 ((us ++ [(us.getD (atI us.length i) default)]).length) c_71, .slice ba bs.length bc], osl a_70 c_71 ((us ++ [(us.getD (atI us.length i) default)]).length) 2 231 ((us ++ [(us.getD (atI us.length i) default)]).flatMap letV), osl ba bc bs.length 2 231 (bs.flatMap letV), famb ((us ++ [(us.getD (atI us.length i) default)]) ++ bs)]) (v := .bool true) (.inr rfl) (.p .h (.p .h (.p (.t (.t .h)) (.w (.t (.t .h)) (famb_sub (db_sub (atI_lt i (by omega)))) .nil)))) Try.results113 rfl ?_
          exact fun w' hs => ⟨((a_70, c_71), (ba, bc)), (congrArg (fun b : Bool => Ending.returned (.bool b)) (show _ = decide (0 < us.length) from (by first | exact (decide_eq_true (by omega)).symm | rfl))), by rw [show (dbU us i) = (us ++ [(us.getD (atI us.length i) default)]) from (by unfold dbU; rw [if_neg (by omega)])]; exact hs⟩
        · -- number 12 first
          refine opS_0 rfl rfl ?_
          refine OpE.y (v := .agg #[.int .i64 ((us.getD (atI us.length i) default).to), .slice ((us.getD (atI us.length i) default).a) ((us.getD (atI us.length i) default).n) ((us.getD (atI us.length i) default).c)]) (y_loadN (vs := letV (us.getD (atI us.length i) default)) rfl Try.isAgg231 Try.sizeOf231 (rdN (oslR (.t .h)) (fl_getN letV_len us (atI us.length i) (by first | omega | (simp only [List.length_set, List.length_take, List.length_drop]; done) | (simp only [List.length_set, List.length_take, List.length_drop]; omega))))) ?_
          refine ⟨.inr (.nil), ?_⟩
          refine anyS_all (rs := [5, 13]) (by kernel_rfl) (by simp) ?_
          intro i hi72; simp only [List.mem_cons, List.not_mem_nil, or_false] at hi72; rcases hi72 with rfl | rfl
          · -- number 5 first
            refine opS_0 rfl rfl ?_
            refine OpE.ent (fun w hs => SH.nil0 (sz := 2) (t := 231) w hs) ?_
            refine e_appendL (enc := letV) (xs := ([] : List Let)) (ns := (us : List Let)) (zs := us) (bytes := 32) letV_len letV_one Try.underlying134 (i := Try.t231) rfl rfl rfl rfl rfl (by decide) rfl rfl (by first | rfl | omega) (by first | rfl | omega) .h (oslR (.t (.t .h))) (List.nil_append _) (by omega) (by omega) ?_
            intro a_74 c_75
            refine ⟨.inr (.nil), ?_⟩
            refine anyS_all (rs := [13]) (by kernel_rfl) (by simp) ?_
            intro i hi; obtain rfl := List.mem_singleton.1 hi; clear hi
            refine opS_0 rfl rfl ?_
            refine e_bsliceL (e := 231) (m := [(0, .agg #[.int .i64 ((us.getD (atI us.length i) default).to), .slice ((us.getD (atI us.length i) default).a) ((us.getD (atI us.length i) default).n) ((us.getD (atI us.length i) default).c)])]) (l := [.int .i64 ((us.getD (atI us.length i) default).to), .slice ((us.getD (atI us.length i) default).a) ((us.getD (atI us.length i) default).n) ((us.getD (atI us.length i) default).c)]) (evc rfl evn) (fun w => by kernel_rfl) ?_
            intro b_76
            refine ⟨.inr (.nil), ?_⟩
            refine anyS_all (rs := [14]) (by kernel_rfl) (by simp) ?_
            intro i hi; obtain rfl := List.mem_singleton.1 hi; clear hi
            refine opS_0 rfl rfl ?_
            refine e_appendL (enc := letV) (xs := (us : List Let)) (ns := ([(us.getD (atI us.length i) default)] : List Let)) (zs := (us ++ [(us.getD (atI us.length i) default)])) (bytes := 32) letV_len letV_one Try.underlying134 (i := Try.t231) rfl rfl rfl rfl rfl (by decide) rfl rfl (by first | rfl | omega) (by first | rfl | omega) (.t .h) (fun w hs => celR .h w hs) (by first | rfl | simp) (by (try simp only [List.length_append, List.length_cons, List.length_nil] at *); omega) (by (try simp only [List.length_append, List.length_cons, List.length_nil] at *); omega) ?_
            intro a_77 c_78
            refine ⟨.inr (.nil), ?_⟩
            refine anyS_take (i := 15) rfl (by kernel_rfl) (by kernel_rfl) (by kernel_rfl) (by kernel_rfl) (Yq.of (v := .pointer (some ⟨wb, 0, none⟩)) (y_nilP rfl) rfl) (.nil) ?_
            refine anyS_take (i := 16) rfl (by kernel_rfl) (by kernel_rfl) (by kernel_rfl) (by kernel_rfl) (Yq.of (v := .pointer (some ⟨wb, 0, none⟩)) (y_fieldAddr (o' := 0) rfl Try.underlying136 rfl Try.sizeOf134 (by decide) rfl) rfl) (.nil) ?_
            refine anyS_all (rs := [17]) (by kernel_rfl) (by simp) ?_
            intro i hi; obtain rfl := List.mem_singleton.1 hi; clear hi
            refine opS_0 rfl rfl ?_
            refine e_store (vs := [.slice a_77 ((us ++ [(us.getD (atI us.length i) default)]).length) c_78]) (l' := [.slice a_77 ((us ++ [(us.getD (atI us.length i) default)]).length) c_78, .slice ba bs.length bc]) rfl rfl rfl rfl Try.sizeOf134 (.t (.t .h)) (Nat.le_of_ble_eq_true rfl) rfl ?_
            refine ⟨.inr (.nil), ?_⟩
            refine anyS_done (by kernel_rfl) ?_
            refine thenS_n ?_
            refine wpS_seq ?_
            refine wpS_region ?_
            refine s_y (v := .bool true) (y_assign rfl) rfl ?_
            refine wpL_nil ?_
            refine thenS_n ?_
            refine wpS_ret ?_
            refine fin1 (M := [cel wb 136 [.slice a_77 ((us ++ [(us.getD (atI us.length i) default)]).length) c_78, .slice ba bs.length bc], osl a_77 c_78 ((us ++ [(us.getD (atI us.length i) default)]).length) 2 231 ((us ++ [(us.getD (atI us.length i) default)]).flatMap letV), osl ba bc bs.length 2 231 (bs.flatMap letV), famb ((us ++ [(us.getD (atI us.length i) default)]) ++ bs)]) (v := .bool true) (.inr rfl) (.p .h (.p .h (.p (.t (.t .h)) (.w (.t (.t .h)) (famb_sub (db_sub (atI_lt i (by omega)))) .nil)))) Try.results113 rfl ?_
            exact fun w' hs => ⟨((a_77, c_78), (ba, bc)), (congrArg (fun b : Bool => Ending.returned (.bool b)) (show _ = decide (0 < us.length) from (by first | exact (decide_eq_true (by omega)).symm | rfl))), by rw [show (dbU us i) = (us ++ [(us.getD (atI us.length i) default)]) from (by unfold dbU; rw [if_neg (by omega)])]; exact hs⟩
          · -- number 13 first
            refine opS_0 rfl rfl ?_
            refine e_bsliceL (e := 231) (m := [(0, .agg #[.int .i64 ((us.getD (atI us.length i) default).to), .slice ((us.getD (atI us.length i) default).a) ((us.getD (atI us.length i) default).n) ((us.getD (atI us.length i) default).c)])]) (l := [.int .i64 ((us.getD (atI us.length i) default).to), .slice ((us.getD (atI us.length i) default).a) ((us.getD (atI us.length i) default).n) ((us.getD (atI us.length i) default).c)]) (evc rfl evn) (fun w => by kernel_rfl) ?_
            intro b_79
            refine ⟨.inr (.nil), ?_⟩
            refine anyS_all (rs := [5]) (by kernel_rfl) (by simp) ?_
            intro i hi; obtain rfl := List.mem_singleton.1 hi; clear hi
            refine opS_0 rfl rfl ?_
            refine OpE.ent (fun w hs => SH.nil0 (sz := 2) (t := 231) w hs) ?_
            refine e_appendL (enc := letV) (xs := ([] : List Let)) (ns := (us : List Let)) (zs := us) (bytes := 32) letV_len letV_one Try.underlying134 (i := Try.t231) rfl rfl rfl rfl rfl (by decide) rfl rfl (by first | rfl | omega) (by first | rfl | omega) .h (oslR (.t (.t (.t .h)))) (List.nil_append _) (by omega) (by omega) ?_
            intro a_81 c_82
            refine ⟨.inr (.nil), ?_⟩
            refine anyS_all (rs := [14]) (by kernel_rfl) (by simp) ?_
            intro i hi; obtain rfl := List.mem_singleton.1 hi; clear hi
            refine opS_0 rfl rfl ?_
            refine e_appendL (enc := letV) (xs := (us : List Let)) (ns := ([(us.getD (atI us.length i) default)] : List Let)) (zs := (us ++ [(us.getD (atI us.length i) default)])) (bytes := 32) letV_len letV_one Try.underlying134 (i := Try.t231) rfl rfl rfl rfl rfl (by decide) rfl rfl (by first | rfl | omega) (by first | rfl | omega) .h (fun w hs => celR (.t .h) w hs) (by first | rfl | simp) (by (try simp only [List.length_append, List.length_cons, List.length_nil] at *); omega) (by (try simp only [List.length_append, List.length_cons, List.length_nil] at *); omega) ?_
            intro a_83 c_84
            refine ⟨.inr (.nil), ?_⟩
            refine anyS_take (i := 15) rfl (by kernel_rfl) (by kernel_rfl) (by kernel_rfl) (by kernel_rfl) (Yq.of (v := .pointer (some ⟨wb, 0, none⟩)) (y_nilP rfl) rfl) (.nil) ?_
            refine anyS_take (i := 16) rfl (by kernel_rfl) (by kernel_rfl) (by kernel_rfl) (by kernel_rfl) (Yq.of (v := .pointer (some ⟨wb, 0, none⟩)) (y_fieldAddr (o' := 0) rfl Try.underlying136 rfl Try.sizeOf134 (by decide) rfl) rfl) (.nil) ?_
            refine anyS_all (rs := [17]) (by kernel_rfl) (by simp) ?_
            intro i hi; obtain rfl := List.mem_singleton.1 hi; clear hi
            refine opS_0 rfl rfl ?_
            refine e_store (vs := [.slice a_83 ((us ++ [(us.getD (atI us.length i) default)]).length) c_84]) (l' := [.slice a_83 ((us ++ [(us.getD (atI us.length i) default)]).length) c_84, .slice ba bs.length bc]) rfl rfl rfl rfl Try.sizeOf134 (.t (.t .h)) (Nat.le_of_ble_eq_true rfl) rfl ?_
            refine ⟨.inr (.nil), ?_⟩
            refine anyS_done (by kernel_rfl) ?_
            refine thenS_n ?_
            refine wpS_seq ?_
            refine wpS_region ?_
            refine s_y (v := .bool true) (y_assign rfl) rfl ?_
            refine wpL_nil ?_
            refine thenS_n ?_
            refine wpS_ret ?_
            refine fin1 (M := [cel wb 136 [.slice a_83 ((us ++ [(us.getD (atI us.length i) default)]).length) c_84, .slice ba bs.length bc], osl a_83 c_84 ((us ++ [(us.getD (atI us.length i) default)]).length) 2 231 ((us ++ [(us.getD (atI us.length i) default)]).flatMap letV), osl ba bc bs.length 2 231 (bs.flatMap letV), famb ((us ++ [(us.getD (atI us.length i) default)]) ++ bs)]) (v := .bool true) (.inr rfl) (.p .h (.p .h (.p (.t (.t .h)) (.w (.t (.t .h)) (famb_sub (db_sub (atI_lt i (by omega)))) .nil)))) Try.results113 rfl ?_
            exact fun w' hs => ⟨((a_83, c_84), (ba, bc)), (congrArg (fun b : Bool => Ending.returned (.bool b)) (show _ = decide (0 < us.length) from (by first | exact (decide_eq_true (by omega)).symm | rfl))), by rw [show (dbU us i) = (us ++ [(us.getD (atI us.length i) default)]) from (by unfold dbU; rw [if_neg (by omega)])]; exact hs⟩
      · -- number 12 first
        refine opS_0 rfl rfl ?_
        refine OpE.y (v := .agg #[.int .i64 ((us.getD (atI us.length i) default).to), .slice ((us.getD (atI us.length i) default).a) ((us.getD (atI us.length i) default).n) ((us.getD (atI us.length i) default).c)]) (y_loadN (vs := letV (us.getD (atI us.length i) default)) rfl Try.isAgg231 Try.sizeOf231 (rdN (oslR (.t .h)) (fl_getN letV_len us (atI us.length i) (by first | omega | (simp only [List.length_set, List.length_take, List.length_drop]; done) | (simp only [List.length_set, List.length_take, List.length_drop]; omega))))) ?_
        refine ⟨.inr (.nil), ?_⟩
        refine anyS_all (rs := [4, 13]) (by kernel_rfl) (by simp) ?_
        intro i hi85; simp only [List.mem_cons, List.not_mem_nil, or_false] at hi85; rcases hi85 with rfl | rfl
        · -- number 4 first
          refine opS_0 rfl rfl ?_
          refine OpE.y (v := .slice ua us.length uc) (y_load1 rfl Try.isAgg134 (own1 .h rfl)) ?_
          refine ⟨.inr (.nil), ?_⟩
          refine anyS_all (rs := [5, 13]) (by kernel_rfl) (by simp) ?_
          intro i hi86; simp only [List.mem_cons, List.not_mem_nil, or_false] at hi86; rcases hi86 with rfl | rfl
          · -- number 5 first
            refine opS_0 rfl rfl ?_
            refine OpE.ent (fun w hs => SH.nil0 (sz := 2) (t := 231) w hs) ?_
            refine e_appendL (enc := letV) (xs := ([] : List Let)) (ns := (us : List Let)) (zs := us) (bytes := 32) letV_len letV_one Try.underlying134 (i := Try.t231) rfl rfl rfl rfl rfl (by decide) rfl rfl (by first | rfl | omega) (by first | rfl | omega) .h (oslR (.t (.t .h))) (List.nil_append _) (by omega) (by omega) ?_
            intro a_88 c_89
            refine ⟨.inr (.nil), ?_⟩
            refine anyS_all (rs := [13]) (by kernel_rfl) (by simp) ?_
            intro i hi; obtain rfl := List.mem_singleton.1 hi; clear hi
            refine opS_0 rfl rfl ?_
            refine e_bsliceL (e := 231) (m := [(0, .agg #[.int .i64 ((us.getD (atI us.length i) default).to), .slice ((us.getD (atI us.length i) default).a) ((us.getD (atI us.length i) default).n) ((us.getD (atI us.length i) default).c)])]) (l := [.int .i64 ((us.getD (atI us.length i) default).to), .slice ((us.getD (atI us.length i) default).a) ((us.getD (atI us.length i) default).n) ((us.getD (atI us.length i) default).c)]) (evc rfl evn) (fun w => by kernel_rfl) ?_
            intro b_90
            refine ⟨.inr (.nil), ?_⟩
            refine anyS_all (rs := [14]) (by kernel_rfl) (by simp) ?_
            intro i hi; obtain rfl := List.mem_singleton.1 hi; clear hi
            refine opS_0 rfl rfl ?_
            refine e_appendL (enc := letV) (xs := (us : List Let)) (ns := ([(us.getD (atI us.length i) default)] : List Let)) (zs := (us ++ [(us.getD (atI us.length i) default)])) (bytes := 32) letV_len letV_one Try.underlying134 (i := Try.t231) rfl rfl rfl rfl rfl (by decide) rfl rfl (by first | rfl | omega) (by first | rfl | omega) (.t .h) (fun w hs => celR .h w hs) (by first | rfl | simp) (by (try simp only [List.length_append, List.length_cons, List.length_nil] at *); omega) (by (try simp only [List.length_append, List.length_cons, List.length_nil] at *); omega) ?_
            intro a_91 c_92
            refine ⟨.inr (.nil), ?_⟩
            refine anyS_take (i := 15) rfl (by kernel_rfl) (by kernel_rfl) (by kernel_rfl) (by kernel_rfl) (Yq.of (v := .pointer (some ⟨wb, 0, none⟩)) (y_nilP rfl) rfl) (.nil) ?_
            refine anyS_take (i := 16) rfl (by kernel_rfl) (by kernel_rfl) (by kernel_rfl) (by kernel_rfl) (Yq.of (v := .pointer (some ⟨wb, 0, none⟩)) (y_fieldAddr (o' := 0) rfl Try.underlying136 rfl Try.sizeOf134 (by decide) rfl) rfl) (.nil) ?_
            refine anyS_all (rs := [17]) (by kernel_rfl) (by simp) ?_
            intro i hi; obtain rfl := List.mem_singleton.1 hi; clear hi
            refine opS_0 rfl rfl ?_
            refine e_store (vs := [.slice a_91 ((us ++ [(us.getD (atI us.length i) default)]).length) c_92]) (l' := [.slice a_91 ((us ++ [(us.getD (atI us.length i) default)]).length) c_92, .slice ba bs.length bc]) rfl rfl rfl rfl Try.sizeOf134 (.t (.t .h)) (Nat.le_of_ble_eq_true rfl) rfl ?_
            refine ⟨.inr (.nil), ?_⟩
            refine anyS_done (by kernel_rfl) ?_
            refine thenS_n ?_
            refine wpS_seq ?_
            refine wpS_region ?_
            refine s_y (v := .bool true) (y_assign rfl) rfl ?_
            refine wpL_nil ?_
            refine thenS_n ?_
            refine wpS_ret ?_
            refine fin1 (M := [cel wb 136 [.slice a_91 ((us ++ [(us.getD (atI us.length i) default)]).length) c_92, .slice ba bs.length bc], osl a_91 c_92 ((us ++ [(us.getD (atI us.length i) default)]).length) 2 231 ((us ++ [(us.getD (atI us.length i) default)]).flatMap letV), osl ba bc bs.length 2 231 (bs.flatMap letV), famb ((us ++ [(us.getD (atI us.length i) default)]) ++ bs)]) (v := .bool true) (.inr rfl) (.p .h (.p .h (.p (.t (.t .h)) (.w (.t (.t .h)) (famb_sub (db_sub (atI_lt i (by omega)))) .nil)))) Try.results113 rfl ?_
            exact fun w' hs => ⟨((a_91, c_92), (ba, bc)), (congrArg (fun b : Bool => Ending.returned (.bool b)) (show _ = decide (0 < us.length) from (by first | exact (decide_eq_true (by omega)).symm | rfl))), by rw [show (dbU us i) = (us ++ [(us.getD (atI us.length i) default)]) from (by unfold dbU; rw [if_neg (by omega)])]; exact hs⟩
          · -- number 13 first
            refine opS_0 rfl rfl ?_
            refine e_bsliceL (e := 231) (m := [(0, .agg #[.int .i64 ((us.getD (atI us.length i) default).to), .slice ((us.getD (atI us.length i) default).a) ((us.getD (atI us.length i) default).n) ((us.getD (atI us.length i) default).c)])]) (l := [.int .i64 ((us.getD (atI us.length i) default).to), .slice ((us.getD (atI us.length i) default).a) ((us.getD (atI us.length i) default).n) ((us.getD (atI us.length i) default).c)]) (evc rfl evn) (fun w => by kernel_rfl) ?_
            intro b_93
            refine ⟨.inr (.nil), ?_⟩
            refine anyS_all (rs := [5]) (by kernel_rfl) (by simp) ?_
            intro i hi; obtain rfl := List.mem_singleton.1 hi; clear hi
            refine opS_0 rfl rfl ?_
            refine OpE.ent (fun w hs => SH.nil0 (sz := 2) (t := 231) w hs) ?_
            refine e_appendL (enc := letV) (xs := ([] : List Let)) (ns := (us : List Let)) (zs := us) (bytes := 32) letV_len letV_one Try.underlying134 (i := Try.t231) rfl rfl rfl rfl rfl (by decide) rfl rfl (by first | rfl | omega) (by first | rfl | omega) .h (oslR (.t (.t (.t .h)))) (List.nil_append _) (by omega) (by omega) ?_
            intro a_95 c_96
            refine ⟨.inr (.nil), ?_⟩
            refine anyS_all (rs := [14]) (by kernel_rfl) (by simp) ?_
            intro i hi; obtain rfl := List.mem_singleton.1 hi; clear hi
            refine opS_0 rfl rfl ?_
            refine e_appendL (enc := letV) (xs := (us : List Let)) (ns := ([(us.getD (atI us.length i) default)] : List Let)) (zs := (us ++ [(us.getD (atI us.length i) default)])) (bytes := 32) letV_len letV_one Try.underlying134 (i := Try.t231) rfl rfl rfl rfl rfl (by decide) rfl rfl (by first | rfl | omega) (by first | rfl | omega) .h (fun w hs => celR (.t .h) w hs) (by first | rfl | simp) (by (try simp only [List.length_append, List.length_cons, List.length_nil] at *); omega) (by (try simp only [List.length_append, List.length_cons, List.length_nil] at *); omega) ?_
            intro a_97 c_98
            refine ⟨.inr (.nil), ?_⟩
            refine anyS_take (i := 15) rfl (by kernel_rfl) (by kernel_rfl) (by kernel_rfl) (by kernel_rfl) (Yq.of (v := .pointer (some ⟨wb, 0, none⟩)) (y_nilP rfl) rfl) (.nil) ?_
            refine anyS_take (i := 16) rfl (by kernel_rfl) (by kernel_rfl) (by kernel_rfl) (by kernel_rfl) (Yq.of (v := .pointer (some ⟨wb, 0, none⟩)) (y_fieldAddr (o' := 0) rfl Try.underlying136 rfl Try.sizeOf134 (by decide) rfl) rfl) (.nil) ?_
            refine anyS_all (rs := [17]) (by kernel_rfl) (by simp) ?_
            intro i hi; obtain rfl := List.mem_singleton.1 hi; clear hi
            refine opS_0 rfl rfl ?_
            refine e_store (vs := [.slice a_97 ((us ++ [(us.getD (atI us.length i) default)]).length) c_98]) (l' := [.slice a_97 ((us ++ [(us.getD (atI us.length i) default)]).length) c_98, .slice ba bs.length bc]) rfl rfl rfl rfl Try.sizeOf134 (.t (.t .h)) (Nat.le_of_ble_eq_true rfl) rfl ?_
            refine ⟨.inr (.nil), ?_⟩
            refine anyS_done (by kernel_rfl) ?_
            refine thenS_n ?_
            refine wpS_seq ?_
            refine wpS_region ?_
            refine s_y (v := .bool true) (y_assign rfl) rfl ?_
            refine wpL_nil ?_
            refine thenS_n ?_
            refine wpS_ret ?_
            refine fin1 (M := [cel wb 136 [.slice a_97 ((us ++ [(us.getD (atI us.length i) default)]).length) c_98, .slice ba bs.length bc], osl a_97 c_98 ((us ++ [(us.getD (atI us.length i) default)]).length) 2 231 ((us ++ [(us.getD (atI us.length i) default)]).flatMap letV), osl ba bc bs.length 2 231 (bs.flatMap letV), famb ((us ++ [(us.getD (atI us.length i) default)]) ++ bs)]) (v := .bool true) (.inr rfl) (.p .h (.p .h (.p (.t (.t .h)) (.w (.t (.t .h)) (famb_sub (db_sub (atI_lt i (by omega)))) .nil)))) Try.results113 rfl ?_
            exact fun w' hs => ⟨((a_97, c_98), (ba, bc)), (congrArg (fun b : Bool => Ending.returned (.bool b)) (show _ = decide (0 < us.length) from (by first | exact (decide_eq_true (by omega)).symm | rfl))), by rw [show (dbU us i) = (us ++ [(us.getD (atI us.length i) default)]) from (by unfold dbU; rw [if_neg (by omega)])]; exact hs⟩
        · -- number 13 first
          refine opS_0 rfl rfl ?_
          refine e_bsliceL (e := 231) (m := [(0, .agg #[.int .i64 ((us.getD (atI us.length i) default).to), .slice ((us.getD (atI us.length i) default).a) ((us.getD (atI us.length i) default).n) ((us.getD (atI us.length i) default).c)])]) (l := [.int .i64 ((us.getD (atI us.length i) default).to), .slice ((us.getD (atI us.length i) default).a) ((us.getD (atI us.length i) default).n) ((us.getD (atI us.length i) default).c)]) (evc rfl evn) (fun w => by kernel_rfl) ?_
          intro b_99
          refine ⟨.inr (.nil), ?_⟩
          refine anyS_all (rs := [4]) (by kernel_rfl) (by simp) ?_
          intro i hi; obtain rfl := List.mem_singleton.1 hi; clear hi
          refine opS_0 rfl rfl ?_
          refine OpE.y (v := .slice ua us.length uc) (y_load1 rfl Try.isAgg134 (own1 (.t .h) rfl)) ?_
          refine ⟨.inr (.nil), ?_⟩
          refine anyS_all (rs := [5]) (by kernel_rfl) (by simp) ?_
          intro i hi; obtain rfl := List.mem_singleton.1 hi; clear hi
          refine opS_0 rfl rfl ?_
          refine OpE.ent (fun w hs => SH.nil0 (sz := 2) (t := 231) w hs) ?_
          refine e_appendL (enc := letV) (xs := ([] : List Let)) (ns := (us : List Let)) (zs := us) (bytes := 32) letV_len letV_one Try.underlying134 (i := Try.t231) rfl rfl rfl rfl rfl (by decide) rfl rfl (by first | rfl | omega) (by first | rfl | omega) .h (oslR (.t (.t (.t .h)))) (List.nil_append _) (by omega) (by omega) ?_
          intro a_101 c_102
          refine ⟨.inr (.nil), ?_⟩
          refine anyS_all (rs := [14]) (by kernel_rfl) (by simp) ?_
          intro i hi; obtain rfl := List.mem_singleton.1 hi; clear hi
          refine opS_0 rfl rfl ?_
          refine e_appendL (enc := letV) (xs := (us : List Let)) (ns := ([(us.getD (atI us.length i) default)] : List Let)) (zs := (us ++ [(us.getD (atI us.length i) default)])) (bytes := 32) letV_len letV_one Try.underlying134 (i := Try.t231) rfl rfl rfl rfl rfl (by decide) rfl rfl (by first | rfl | omega) (by first | rfl | omega) .h (fun w hs => celR (.t .h) w hs) (by first | rfl | simp) (by (try simp only [List.length_append, List.length_cons, List.length_nil] at *); omega) (by (try simp only [List.length_append, List.length_cons, List.length_nil] at *); omega) ?_
          intro a_103 c_104
          refine ⟨.inr (.nil), ?_⟩
          refine anyS_take (i := 15) rfl (by kernel_rfl) (by kernel_rfl) (by kernel_rfl) (by kernel_rfl) (Yq.of (v := .pointer (some ⟨wb, 0, none⟩)) (y_nilP rfl) rfl) (.nil) ?_
          refine anyS_take (i := 16) rfl (by kernel_rfl) (by kernel_rfl) (by kernel_rfl) (by kernel_rfl) (Yq.of (v := .pointer (some ⟨wb, 0, none⟩)) (y_fieldAddr (o' := 0) rfl Try.underlying136 rfl Try.sizeOf134 (by decide) rfl) rfl) (.nil) ?_
          refine anyS_all (rs := [17]) (by kernel_rfl) (by simp) ?_
          intro i hi; obtain rfl := List.mem_singleton.1 hi; clear hi
          refine opS_0 rfl rfl ?_
          refine e_store (vs := [.slice a_103 ((us ++ [(us.getD (atI us.length i) default)]).length) c_104]) (l' := [.slice a_103 ((us ++ [(us.getD (atI us.length i) default)]).length) c_104, .slice ba bs.length bc]) rfl rfl rfl rfl Try.sizeOf134 (.t (.t .h)) (Nat.le_of_ble_eq_true rfl) rfl ?_
          refine ⟨.inr (.nil), ?_⟩
          refine anyS_done (by kernel_rfl) ?_
          refine thenS_n ?_
          refine wpS_seq ?_
          refine wpS_region ?_
          refine s_y (v := .bool true) (y_assign rfl) rfl ?_
          refine wpL_nil ?_
          refine thenS_n ?_
          refine wpS_ret ?_
          refine fin1 (M := [cel wb 136 [.slice a_103 ((us ++ [(us.getD (atI us.length i) default)]).length) c_104, .slice ba bs.length bc], osl a_103 c_104 ((us ++ [(us.getD (atI us.length i) default)]).length) 2 231 ((us ++ [(us.getD (atI us.length i) default)]).flatMap letV), osl ba bc bs.length 2 231 (bs.flatMap letV), famb ((us ++ [(us.getD (atI us.length i) default)]) ++ bs)]) (v := .bool true) (.inr rfl) (.p .h (.p .h (.p (.t (.t .h)) (.w (.t (.t .h)) (famb_sub (db_sub (atI_lt i (by omega)))) .nil)))) Try.results113 rfl ?_
          exact fun w' hs => ⟨((a_103, c_104), (ba, bc)), (congrArg (fun b : Bool => Ending.returned (.bool b)) (show _ = decide (0 < us.length) from (by first | exact (decide_eq_true (by omega)).symm | rfl))), by rw [show (dbU us i) = (us ++ [(us.getD (atI us.length i) default)]) from (by unfold dbU; rw [if_neg (by omega)])]; exact hs⟩

theorem rdouble_c (wb : Nat) (ua : Option Addr) (uc : Nat) (ba : Option Addr) (bc : Nat) (us bs : List Let) (i : Int) (w : World) (hul : us.length ≤ 100000) (hbl : bs.length ≤ 100000) (hA : SH w (([cel wb 136 [.slice ua us.length uc, .slice ba bs.length bc], osl ua uc us.length 2 231 (us.flatMap letV), osl ba bc bs.length 2 231 (bs.flatMap letV), famb (us ++ bs)] : List Res).flatMap Res.fp) [cel wb 136 [.slice ua us.length uc, .slice ba bs.length bc], osl ua uc us.length 2 231 (us.flatMap letV), osl ba bc bs.length 2 231 (bs.flatMap letV), famb (us ++ bs)] w) : Calls Try.prog 113 #[.pointer (some ⟨wb, 0, none⟩), .int .i64 i] w (fun e w' => ∃ x : (Option Addr × Nat) × (Option Addr × Nat), e = .returned (.bool (decide (0 < us.length))) ∧ SH w (([cel wb 136 [.slice ua us.length uc, .slice ba bs.length bc], osl ua uc us.length 2 231 (us.flatMap letV), osl ba bc bs.length 2 231 (bs.flatMap letV), famb (us ++ bs)] : List Res).flatMap Res.fp) [cel wb 136 [.slice x.1.1 ((dbU us i).length) x.1.2, .slice x.2.1 bs.length x.2.2], osl x.1.1 x.1.2 ((dbU us i).length) 2 231 ((dbU us i).flatMap letV), osl x.2.1 x.2.2 bs.length 2 231 (bs.flatMap letV), famb ((dbU us i) ++ bs)] w') := by
  by_cases h : us.length = 0
  · exact rdouble0_c wb ua uc ba bc us bs i w hul hbl hA h
  · exact rdouble1_c wb ua uc ba bc us bs i w hul hbl hA (by omega)

theorem rsend_c (wb : Nat) (ua : Option Addr) (uc : Nat) (ba : Option Addr) (bc : Nat) (us bs : List Let) (to : Int) (a : Option Addr) (n c : Nat) (d : List UInt8) (w : World) (hul : us.length ≤ 100000) (hn : d.length = n) (hr : Rds w a (d.flatMap byteV)) (hb : n ≤ 1000000) (hap : 0 < (d.flatMap byteV).length → aB a ∉ (([cel wb 136 [.slice ua us.length uc, .slice ba bs.length bc], osl ua uc us.length 2 231 (us.flatMap letV), osl ba bc bs.length 2 231 (bs.flatMap letV), famb (us ++ bs)] : List Res).flatMap Res.fp)) (hA : SH w (([cel wb 136 [.slice ua us.length uc, .slice ba bs.length bc], osl ua uc us.length 2 231 (us.flatMap letV), osl ba bc bs.length 2 231 (bs.flatMap letV), famb (us ++ bs)] : List Res).flatMap Res.fp) [cel wb 136 [.slice ua us.length uc, .slice ba bs.length bc], osl ua uc us.length 2 231 (us.flatMap letV), osl ba bc bs.length 2 231 (bs.flatMap letV), famb (us ++ bs)] w) : Calls Try.prog 120 #[.pointer (some ⟨wb, 0, none⟩), .int .i64 to, .slice a n c] w (fun e w' => ∃ x : (((Option Addr × Nat) × (Option Addr × Nat)) × (Option Addr × Nat)), e = .returned (.tuple #[]) ∧ SH w (([cel wb 136 [.slice ua us.length uc, .slice ba bs.length bc], osl ua uc us.length 2 231 (us.flatMap letV), osl ba bc bs.length 2 231 (bs.flatMap letV), famb (us ++ bs)] : List Res).flatMap Res.fp) [cel wb 136 [.slice x.1.1.1 ((us ++ [(Let.mk to x.2.1 d.length x.2.2 d)]).length) x.1.1.2, .slice x.1.2.1 bs.length x.1.2.2], osl x.1.1.1 x.1.1.2 ((us ++ [(Let.mk to x.2.1 d.length x.2.2 d)]).length) 2 231 ((us ++ [(Let.mk to x.2.1 d.length x.2.2 d)]).flatMap letV), osl x.1.2.1 x.1.2.2 bs.length 2 231 (bs.flatMap letV), famb ((us ++ [(Let.mk to x.2.1 d.length x.2.2 d)]) ++ bs)] w') := by
  refine calls_S (n := 20) (σ0 := (upd (upd (upd fr0 0 (.pointer (some ⟨wb, 0, none⟩))) 1 (.int .i64 to)) 2 (.slice a n c))) (D := (([cel wb 136 [.slice ua us.length uc, .slice ba bs.length bc], osl ua uc us.length 2 231 (us.flatMap letV), osl ba bc bs.length 2 231 (bs.flatMap letV), famb (us ++ bs)] : List Res).flatMap Res.fp)) (A := [cel wb 136 [.slice ua us.length uc, .slice ba bs.length bc], osl ua uc us.length 2 231 (us.flatMap letV), osl ba bc bs.length 2 231 (bs.flatMap letV), famb (us ++ bs)]) Try.func120 rfl Try.ntmps120 rfl (a3_fr _ _ _) hA ?_
  refine wpS_region ?_
  refine s_y (v := .pointer (some ⟨wb, 0, none⟩)) (y_move rfl) rfl ?_
  refine s_y (v := .pointer (some ⟨wb, 0, none⟩)) (y_move rfl) rfl ?_
  refine s_y (v := .pointer (some ⟨wb, 0, none⟩)) (y_nilP rfl) rfl ?_
  refine s_y (v := .pointer (some ⟨wb, 0, none⟩)) (y_fieldAddr (o' := 0) rfl Try.underlying136 rfl Try.sizeOf134 (by decide) rfl) rfl ?_
  refine s_y (v := .slice ua us.length uc) (y_load1 rfl Try.isAgg134 (own1 .h rfl)) rfl ?_
  refine s_e rfl ?_
  refine OpE.ent (fun w hs => SH.nil0 (sz := 2) (t := 231) w hs) ?_
  refine e_appendL (enc := letV) (xs := ([] : List Let)) (ns := (us : List Let)) (zs := us) (bytes := 32) letV_len letV_one Try.underlying134 (i := Try.t231) rfl rfl rfl rfl rfl (by decide) rfl rfl (by first | rfl | omega) (by first | rfl | omega) .h (oslR (.t (.t .h))) (List.nil_append _) (by omega) (by omega) ?_
  intro a_2 c_3
  refine s_y (v := .int .i64 to) (y_move rfl) rfl ?_
  refine s_y (v := .slice a n c) (y_move rfl) rfl ?_
  refine s_e rfl ?_
  refine e_call (f := 197) (args := #[.slice a n c]) (X := Option Addr × Nat) (A := []) (M := [osl a_2 c_3 us.length 2 231 (us.flatMap letV), cel wb 136 [.slice ua us.length uc, .slice ba bs.length bc], osl ua uc us.length 2 231 (us.flatMap letV), osl ba bc bs.length 2 231 (bs.flatMap letV), famb (us ++ bs)]) (V := slV d) (A' := fun x => [slR byteV 1 5 d x]) (C := fun x => d.length ≤ x.2) Try.call197 (ev1 rfl) (.p .h (.p .h (.p .h (.p .h (.p .h .nil))))) (fun w hs => (copyB_c a n c d w hn ((oldRD' hr hap) w hs) (by omega)).cap) ?_
  rintro ⟨a_4, c_5⟩ hc6; replace hc6 : d.length ≤ c_5 := hc6
  refine s_y (v := .agg #[.int .i64 to, .slice a_4 d.length c_5]) (y_buildL (m := [(0, .int .i64 to), (1, .slice a_4 d.length c_5)]) (vs := #[.int .i64 to, .slice a_4 d.length c_5]) (evc rfl (evc rfl evn)) (fun w => by kernel_rfl)) rfl ?_
  refine s_e rfl ?_
  refine e_bsliceL (e := 231) (m := [(0, .agg #[.int .i64 to, .slice a_4 d.length c_5])]) (l := [.int .i64 to, .slice a_4 d.length c_5]) (evc rfl evn) (fun w => by kernel_rfl) ?_
  intro b_8
  refine s_e rfl ?_
  refine e_appendL (enc := letV) (xs := (us : List Let)) (ns := ([(Let.mk to a_4 d.length c_5 d)] : List Let)) (zs := (us ++ [(Let.mk to a_4 d.length c_5 d)])) (bytes := 32) letV_len letV_one Try.underlying134 (i := Try.t231) rfl rfl rfl rfl rfl (by decide) rfl rfl (by first | rfl | omega) (by first | rfl | omega) (.t (.t .h)) (fun w hs => celR .h w hs) (by first | rfl | simp) (by (try simp only [List.length_append, List.length_cons, List.length_nil] at *); omega) (by (try simp only [List.length_append, List.length_cons, List.length_nil] at *); omega) ?_
  intro a_9 c_10
  refine s_y (v := .pointer (some ⟨wb, 0, none⟩)) (y_nilP rfl) rfl ?_
  refine s_y (v := .pointer (some ⟨wb, 0, none⟩)) (y_fieldAddr (o' := 0) rfl Try.underlying136 rfl Try.sizeOf134 (by decide) rfl) rfl ?_
  refine s_e0 ?_
  refine e_store (vs := [.slice a_9 ((us ++ [(Let.mk to a_4 d.length c_5 d)]).length) c_10]) (l' := [.slice a_9 ((us ++ [(Let.mk to a_4 d.length c_5 d)]).length) c_10, .slice ba bs.length bc]) rfl rfl rfl rfl Try.sizeOf134 (.t (.t (.t .h))) (Nat.le_of_ble_eq_true rfl) rfl ?_
  refine wpL_nil ?_
  refine fin0 (M := [cel wb 136 [.slice a_9 ((us ++ [(Let.mk to a_4 d.length c_5 d)]).length) c_10, .slice ba bs.length bc], osl a_9 c_10 ((us ++ [(Let.mk to a_4 d.length c_5 d)]).length) 2 231 ((us ++ [(Let.mk to a_4 d.length c_5 d)]).flatMap letV), osl ba bc bs.length 2 231 (bs.flatMap letV), famb (us ++ bs), osl a_4 c_5 d.length 1 5 (d.flatMap byteV)]) (.inl rfl) (.p .h (.p .h (.p (.t (.t (.t .h))) (.p (.t (.t (.t .h))) (.p (.t .h) .nil))))) Try.results120 ?_
  exact fun w' hs => ⟨(((a_9, c_10), (ba, bc)), (a_4, c_5)), rfl, by have h3 := famb_push (Let.mk to a_4 d.length c_5 d) (.t (.t (.t (.t .h)))) (.t (.t (.t .h))) sd_sub w' hs; exact h3.ent (.p (.t .h) (.p (.t .h) (.p (.t .h) (.p .h .nil))))⟩

theorem rwait_c (wb : Nat) (ba : Option Addr) (bn bc : Nat) (bs : List Let) (t : Int) (w : World) (hu : w.cell? ⟨wb, 1, none⟩ = some (.slice ba bn bc)) (hn : bs.length = bn) (hr : Rds w ba (bs.flatMap letV)) (hb : bn ≤ 1000000) : Pure Try.prog 121 #[.pointer (some ⟨wb, 0, none⟩), .int .i64 t] w (.int .i64 ((((cntT t bs) : Nat) : Int))) := by
  refine calls_S (n := 29) (σ0 := (upd (upd fr0 0 (.pointer (some ⟨wb, 0, none⟩))) 1 (.int .i64 t))) (D := []) (A := []) Try.func121 rfl Try.ntmps121 rfl (a2_fr _ _) (SH.start w) ?_
  refine wpS_seq ?_
  refine wpS_region ?_
  refine s_y (v := .int .i64 0) (y_assign rfl) rfl ?_
  refine wpL_nil ?_
  refine thenS_n ?_
  refine wpS_seq ?_
  refine wpS_region ?_
  refine s_y (v := .int .i64 0) (y_assign rfl) rfl ?_
  refine wpL_nil ?_
  refine thenS_n ?_
  refine wpS_seq ?_
  refine wpS_seq ?_
  refine wpS_region ?_
  refine s_y (v := .int .i64 0) (y_assign rfl) rfl ?_
  refine wpL_nil ?_
  refine thenS_n ?_
  refine wpS_block ?_
  refine wpS_loop (fun mez ds σ L => ∃ k : Nat, ∃ q : Nat, mez = bn - k ∧ (k ≤ bn) ∧ (q ≤ k) ∧ (q = cntT t (bs.take k)) ∧ ds = [] ∧ σ 0 = .pointer (some ⟨wb, 0, none⟩) ∧ σ 1 = .int .i64 t ∧ σ 5 = .int .i64 (((q : Nat) : Int)) ∧ σ 6 = .int .i64 (((k : Nat) : Int)) ∧ Ent L []) (m0 := bn - 0) ⟨0, 0, rfl, by omega, by omega, rfl, rfl, rfl, rfl, rfl, rfl, .nil⟩ ?_
  rintro mez ds σ L ⟨k, q, hm_1, hf0_1, hf1_1, hf2_1, rfl, h0_1, h1_1, h5_1, h6_1, hE_1⟩
  refine wpS_ent hE_1 ?_; clear hE_1
  refine wpS_seq ?_
  refine wpS_seq ?_
  refine wpS_region ?_
  refine s_y (v := .int .i64 (((k : Nat) : Int))) (y_move h6_1) rfl ?_
  refine s_y (v := .pointer (some ⟨wb, 0, none⟩)) (y_move h0_1) rfl ?_
  refine s_y (v := .pointer (some ⟨wb, 0, none⟩)) (y_nilP rfl) rfl ?_
  refine s_y (v := .pointer (some ⟨wb, 1, none⟩)) (y_fieldAddr (o' := 1) rfl Try.underlying136 rfl Try.sizeOf134 (by decide) rfl) rfl ?_
  refine s_y (v := .slice ba bn bc) (y_load1 (v := .slice ba bn bc) rfl Try.isAgg134 (old1 hu (by simp))) rfl ?_
  refine s_y (v := .int .i64 (((bn : Nat) : Int))) (y_len (ty' := 0) (at_ := #[]) rfl Try.underlying134) rfl ?_
  refine s_y (v := .bool (decide (k < bn))) (y_lss (a := ((k : Nat) : Int)) (b := ((bn : Nat) : Int)) (c := decide (k < bn)) rfl rfl (decide_eq_decide.2 (by omega))) rfl ?_
  refine wpL_nil ?_
  refine thenS_n ?_
  refine wpS_cond (t := decide (k < bn)) rfl (fun b2 => ?_) (fun b2 => ?_)
  · -- decide (k < bn) true
    have p2 := of_decide_eq_true b2
    refine wpS_skip ?_
    refine thenS_n ?_
    refine wpS_seq ?_
    refine wpS_block ?_
    refine wpS_seq ?_
    refine wpS_region ?_
    refine s_y (v := .pointer (some ⟨wb, 0, none⟩)) (y_move h0_1) rfl ?_
    refine s_y (v := .pointer (some ⟨wb, 0, none⟩)) (y_nilP rfl) rfl ?_
    refine s_y (v := .pointer (some ⟨wb, 1, none⟩)) (y_fieldAddr (o' := 1) rfl Try.underlying136 rfl Try.sizeOf134 (by decide) rfl) rfl ?_
    refine s_y (v := .slice ba bn bc) (y_load1 (v := .slice ba bn bc) rfl Try.isAgg134 (old1 hu (by simp))) rfl ?_
    refine s_y (v := .int .i64 (((k : Nat) : Int))) (y_move h6_1) rfl ?_
    refine s_y (v := .pointer (some ⟨aB ba, aO ba + k * 2, none⟩)) (y_idx (o := k * 2) rfl rfl Try.underlying134 Try.sizeOf231 (oldR hr) ((fl_len letV_len _).trans (by first | omega | (simp only [List.length_set, List.length_take, List.length_drop]; done) | (simp only [List.length_set, List.length_take, List.length_drop]; omega))) (by decide) (by omega) (by omega) (by omega)) rfl ?_
    refine s_y (v := .pointer (some ⟨aB ba, aO ba + k * 2, none⟩)) (y_fieldAddr (o' := aO ba + k * 2) rfl Try.underlying231 rfl Try.sizeOf3 (by decide) rfl) rfl ?_
    refine s_y (v := .int .i64 ((bs.getD k default).to)) (y_load1 (v := .int .i64 ((bs.getD k default).to)) rfl Try.isAgg3 (rd1 (k := k * 2) (oldR hr) (fl_get0 letV_len bs k (by first | omega | (simp only [List.length_set, List.length_take, List.length_drop]; done) | (simp only [List.length_set, List.length_take, List.length_drop]; omega)) rfl))) rfl ?_
    refine s_y (v := .int .i64 t) (y_move h1_1) rfl ?_
    refine s_y (v := .bool (decide (((bs.getD k default).to : Int) = t))) (y_eql (a := (bs.getD k default).to) (b := t) rfl rfl rfl) rfl ?_
    refine wpL_nil ?_
    refine thenS_n ?_
    refine wpS_cond (t := decide (((bs.getD k default).to : Int) = t)) rfl (fun b3 => ?_) (fun b3 => ?_)
    · -- decide (((bs.getD k default).to : Int) = t) true
      have p3 := of_decide_eq_true b3
      refine wpS_region ?_
      refine s_y (v := .int .i64 (((q : Nat) : Int))) (y_move h5_1) rfl ?_
      refine s_y (v := .int .i64 ((((q + 1) : Nat) : Int))) (y_add (a := ((q : Nat) : Int)) (b := 1) (c := (((q + 1) : Nat) : Int)) rfl rfl (wI (by omega) (by omega) (by omega))) rfl ?_
      refine s_y (v := .int .i64 ((((q + 1) : Nat) : Int))) (y_assign rfl) rfl ?_
      refine wpL_nil ?_
      refine blockS_n ?_
      refine thenS_n ?_
      refine wpS_region ?_
      refine s_y (v := .int .i64 (((k : Nat) : Int))) (y_move h6_1) rfl ?_
      refine s_y (v := .int .i64 ((((k + 1) : Nat) : Int))) (y_add (a := ((k : Nat) : Int)) (b := 1) (c := (((k + 1) : Nat) : Int)) rfl rfl (wI (by omega) (by omega) (by omega))) rfl ?_
      refine s_y (v := .int .i64 ((((k + 1) : Nat) : Int))) (y_assign rfl) rfl ?_
      refine wpL_nil ?_
      refine thenS_n ?_
      exact ⟨_, by omega, ⟨(k + 1), (q + 1), rfl, by omega, by omega, (by first | exact cntT_1 (by assumption) (by omega) (by assumption) | exact cntT_0 (by assumption) (by omega) (by assumption)), rfl, h0_1, h1_1, rfl, rfl, .nil⟩⟩
    · -- decide (((bs.getD k default).to : Int) = t) false
      have p3 := of_decide_eq_false b3
      refine wpS_skip ?_
      refine blockS_n ?_
      refine thenS_n ?_
      refine wpS_region ?_
      refine s_y (v := .int .i64 (((k : Nat) : Int))) (y_move h6_1) rfl ?_
      refine s_y (v := .int .i64 ((((k + 1) : Nat) : Int))) (y_add (a := ((k : Nat) : Int)) (b := 1) (c := (((k + 1) : Nat) : Int)) rfl rfl (wI (by omega) (by omega) (by omega))) rfl ?_
      refine s_y (v := .int .i64 ((((k + 1) : Nat) : Int))) (y_assign rfl) rfl ?_
      refine wpL_nil ?_
      refine thenS_n ?_
      exact ⟨_, by omega, ⟨(k + 1), q, rfl, by omega, by omega, (by first | exact cntT_1 (by assumption) (by omega) (by assumption) | exact cntT_0 (by assumption) (by omega) (by assumption)), rfl, h0_1, h1_1, h5_1, rfl, .nil⟩⟩
  · -- decide (k < bn) false
    have p2 := of_decide_eq_false b2
    refine wpS_exit ?_
    refine thenS_x ?_
    refine thenS_x ?_
    refine blockS_h ?_
    refine thenS_n ?_
    refine wpS_seq ?_
    refine wpS_region ?_
    refine s_y (v := .int .i64 (((q : Nat) : Int))) (y_move h5_1) rfl ?_
    refine s_y (v := .int .i64 (((q : Nat) : Int))) (y_assign rfl) rfl ?_
    refine wpL_nil ?_
    refine thenS_n ?_
    refine wpS_ret ?_
    refine fin1 (M := []) (v := .int .i64 (((q : Nat) : Int))) (.inr rfl) (.nil) Try.results121 rfl ?_
    exact fun w' hs => ⟨(congrArg (fun z : Nat => Ending.returned (.int .i64 (z : Int))) (by rw [(by assumption : q = _), List.take_of_length_le (by omega)])), hs⟩

theorem kpS_yes {t : Int} {bs ys : List Let} {k : Nat} (h : ys = kpT t (bs.take k)) (hk : k < bs.length) (he : (bs.getD k default).to ≠ t) : ys ++ [bs.getD k default] = kpT t (bs.take (k + 1)) := by rw [h, kp_yes hk he]
theorem kpS_no {t : Int} {bs ys : List Let} {k : Nat} (h : ys = kpT t (bs.take k)) (hk : k < bs.length) (he : ¬ (bs.getD k default).to ≠ t) : ys = kpT t (bs.take (k + 1)) := by rw [h, kp_no hk (Classical.not_not.1 he)]

theorem rclear_c (wb : Nat) (ua : Option Addr) (uc : Nat) (ba : Option Addr) (bc : Nat) (us bs : List Let) (t : Int) (w : World) (hul : us.length ≤ 100000) (hbl : bs.length ≤ 100000) (hA : SH w (([cel wb 136 [.slice ua us.length uc, .slice ba bs.length bc], osl ua uc us.length 2 231 (us.flatMap letV), osl ba bc bs.length 2 231 (bs.flatMap letV), famb (us ++ bs)] : List Res).flatMap Res.fp) [cel wb 136 [.slice ua us.length uc, .slice ba bs.length bc], osl ua uc us.length 2 231 (us.flatMap letV), osl ba bc bs.length 2 231 (bs.flatMap letV), famb (us ++ bs)] w) : Calls Try.prog 118 #[.pointer (some ⟨wb, 0, none⟩), .int .i64 t] w (fun e w' => ∃ x : (Option Addr × Nat) × (Option Addr × Nat), e = .returned (.tuple #[]) ∧ SH w (([cel wb 136 [.slice ua us.length uc, .slice ba bs.length bc], osl ua uc us.length 2 231 (us.flatMap letV), osl ba bc bs.length 2 231 (bs.flatMap letV), famb (us ++ bs)] : List Res).flatMap Res.fp) [cel wb 136 [.slice x.1.1 us.length x.1.2, .slice x.2.1 ((kpT t bs).length) x.2.2], osl x.1.1 x.1.2 us.length 2 231 (us.flatMap letV), osl x.2.1 x.2.2 ((kpT t bs).length) 2 231 ((kpT t bs).flatMap letV), famb (us ++ (kpT t bs))] w') := by
  refine calls_S (n := 39) (σ0 := (upd (upd fr0 0 (.pointer (some ⟨wb, 0, none⟩))) 1 (.int .i64 t))) (D := (([cel wb 136 [.slice ua us.length uc, .slice ba bs.length bc], osl ua uc us.length 2 231 (us.flatMap letV), osl ba bc bs.length 2 231 (bs.flatMap letV), famb (us ++ bs)] : List Res).flatMap Res.fp)) (A := [cel wb 136 [.slice ua us.length uc, .slice ba bs.length bc], osl ua uc us.length 2 231 (us.flatMap letV), osl ba bc bs.length 2 231 (bs.flatMap letV), famb (us ++ bs)]) Try.func118 rfl Try.ntmps118 rfl (a2_fr _ _) hA ?_
  refine wpS_seq ?_
  refine wpS_region ?_
  refine s_y (v := .slice none 0 0) (y_assign rfl) rfl ?_
  refine wpL_nil ?_
  refine thenS_n ?_
  refine wpS_seq ?_
  refine wpS_seq ?_
  refine wpS_region ?_
  refine s_y (v := .int .i64 0) (y_assign rfl) rfl ?_
  refine wpL_nil ?_
  refine thenS_n ?_
  refine wpS_block ?_
  refine wpS_nil0 2 231 ?_
  refine wpS_loop (fun mez ds σ L => ∃ k : Nat, ∃ ys : List Let, ∃ a1 : Option Addr, ∃ c1 : Nat, mez = bs.length - k ∧ (k ≤ bs.length) ∧ (ys.length ≤ k) ∧ (ys = kpT t (bs.take k)) ∧ ds = [] ∧ σ 0 = .pointer (some ⟨wb, 0, none⟩) ∧ σ 1 = .int .i64 t ∧ σ 4 = .slice a1 ys.length c1 ∧ σ 5 = .int .i64 (((k : Nat) : Int)) ∧ Ent L [osl a1 c1 ys.length 2 231 (ys.flatMap letV), cel wb 136 [.slice ua us.length uc, .slice ba bs.length bc], osl ua uc us.length 2 231 (us.flatMap letV), osl ba bc bs.length 2 231 (bs.flatMap letV), famb (us ++ bs)]) (m0 := bs.length - 0) ⟨0, [], none, 0, rfl, by omega, by simp, rfl, rfl, rfl, rfl, rfl, rfl, .p .h (.p .h (.p .h (.p .h (.p .h .nil))))⟩ ?_
  rintro mez ds σ L ⟨k, ys, a1, c1, hm_1, hf0_1, hf1_1, hf2_1, rfl, h0_1, h1_1, h4_1, h5_1, hE_1⟩
  refine wpS_ent hE_1 ?_; clear hE_1
  refine wpS_seq ?_
  refine wpS_seq ?_
  refine wpS_region ?_
  refine s_y (v := .int .i64 (((k : Nat) : Int))) (y_move h5_1) rfl ?_
  refine s_y (v := .pointer (some ⟨wb, 0, none⟩)) (y_move h0_1) rfl ?_
  refine s_y (v := .pointer (some ⟨wb, 0, none⟩)) (y_nilP rfl) rfl ?_
  refine s_y (v := .pointer (some ⟨wb, 1, none⟩)) (y_fieldAddr (o' := 1) rfl Try.underlying136 rfl Try.sizeOf134 (by decide) rfl) rfl ?_
  refine s_y (v := .slice ba bs.length bc) (y_load1 rfl Try.isAgg134 (own1 (.t .h) rfl)) rfl ?_
  refine s_y (v := .int .i64 (((bs.length : Nat) : Int))) (y_len (ty' := 0) (at_ := #[]) rfl Try.underlying134) rfl ?_
  refine s_y (v := .bool (decide (k < bs.length))) (y_lss (a := ((k : Nat) : Int)) (b := ((bs.length : Nat) : Int)) (c := decide (k < bs.length)) rfl rfl (decide_eq_decide.2 (by omega))) rfl ?_
  refine wpL_nil ?_
  refine thenS_n ?_
  refine wpS_cond (t := decide (k < bs.length)) rfl (fun b2 => ?_) (fun b2 => ?_)
  · -- decide (k < bs.length) true
    have p2 := of_decide_eq_true b2
    refine wpS_skip ?_
    refine thenS_n ?_
    refine wpS_seq ?_
    refine wpS_block ?_
    refine wpS_seq ?_
    refine wpS_region ?_
    refine s_y (v := .pointer (some ⟨wb, 0, none⟩)) (y_move h0_1) rfl ?_
    refine s_y (v := .pointer (some ⟨wb, 0, none⟩)) (y_nilP rfl) rfl ?_
    refine s_y (v := .pointer (some ⟨wb, 1, none⟩)) (y_fieldAddr (o' := 1) rfl Try.underlying136 rfl Try.sizeOf134 (by decide) rfl) rfl ?_
    refine s_y (v := .slice ba bs.length bc) (y_load1 rfl Try.isAgg134 (own1 (.t .h) rfl)) rfl ?_
    refine s_y (v := .int .i64 (((k : Nat) : Int))) (y_move h5_1) rfl ?_
    refine s_y (v := .pointer (some ⟨aB ba, aO ba + k * 2, none⟩)) (y_idx (o := k * 2) rfl rfl Try.underlying134 Try.sizeOf231 (oslR (.t (.t (.t .h)))) (fl_len letV_len _) (by decide) (by omega) (by omega) (by omega)) rfl ?_
    refine s_y (v := .pointer (some ⟨aB ba, aO ba + k * 2, none⟩)) (y_fieldAddr (o' := aO ba + k * 2) rfl Try.underlying231 rfl Try.sizeOf3 (by decide) rfl) rfl ?_
    refine s_y (v := .int .i64 ((bs.getD k default).to)) (y_load1 (v := .int .i64 ((bs.getD k default).to)) rfl Try.isAgg3 (rd1 (k := k * 2) (oslR (.t (.t (.t .h)))) (fl_get0 letV_len bs k (by first | omega | (simp only [List.length_set, List.length_take, List.length_drop]; done) | (simp only [List.length_set, List.length_take, List.length_drop]; omega)) rfl))) rfl ?_
    refine s_y (v := .int .i64 t) (y_move h1_1) rfl ?_
    refine s_y (v := .bool (decide (((bs.getD k default).to : Int) ≠ t))) (y_neq (a := (bs.getD k default).to) (b := t) rfl rfl rfl) rfl ?_
    refine wpL_nil ?_
    refine thenS_n ?_
    refine wpS_cond (t := decide (((bs.getD k default).to : Int) ≠ t)) rfl (fun b3 => ?_) (fun b3 => ?_)
    · -- decide (((bs.getD k default).to : Int) ≠ t) true
      have p3 := of_decide_eq_true b3
      refine wpS_region ?_
      refine s_y (v := .slice a1 ys.length c1) (y_move h4_1) rfl ?_
      refine s_y (v := .pointer (some ⟨wb, 0, none⟩)) (y_move h0_1) rfl ?_
      refine s_y (v := .pointer (some ⟨wb, 0, none⟩)) (y_nilP rfl) rfl ?_
      refine s_y (v := .pointer (some ⟨wb, 1, none⟩)) (y_fieldAddr (o' := 1) rfl Try.underlying136 rfl Try.sizeOf134 (by decide) rfl) rfl ?_
      refine s_y (v := .slice ba bs.length bc) (y_load1 rfl Try.isAgg134 (own1 (.t .h) rfl)) rfl ?_
      refine s_y (v := .int .i64 (((k : Nat) : Int))) (y_move h5_1) rfl ?_
      refine s_y (v := .pointer (some ⟨aB ba, aO ba + k * 2, none⟩)) (y_idx (o := k * 2) rfl rfl Try.underlying134 Try.sizeOf231 (oslR (.t (.t (.t .h)))) (fl_len letV_len _) (by decide) (by omega) (by omega) (by omega)) rfl ?_
      refine s_y (v := .agg #[.int .i64 ((bs.getD k default).to), .slice ((bs.getD k default).a) ((bs.getD k default).n) ((bs.getD k default).c)]) (y_loadN (vs := letV (bs.getD k default)) rfl Try.isAgg231 Try.sizeOf231 (rdN (oslR (.t (.t (.t .h)))) (fl_getN letV_len bs k (by first | omega | (simp only [List.length_set, List.length_take, List.length_drop]; done) | (simp only [List.length_set, List.length_take, List.length_drop]; omega))))) rfl ?_
      refine s_e rfl ?_
      refine e_bsliceL (e := 231) (m := [(0, .agg #[.int .i64 ((bs.getD k default).to), .slice ((bs.getD k default).a) ((bs.getD k default).n) ((bs.getD k default).c)])]) (l := [.int .i64 ((bs.getD k default).to), .slice ((bs.getD k default).a) ((bs.getD k default).n) ((bs.getD k default).c)]) (evc rfl evn) (fun w => by kernel_rfl) ?_
      intro b_4
      refine s_e rfl ?_
      refine e_appendL (enc := letV) (xs := (ys : List Let)) (ns := ([(bs.getD k default)] : List Let)) (zs := (ys ++ [(bs.getD k default)])) (bytes := 32) letV_len letV_one Try.underlying134 (i := Try.t231) rfl rfl rfl rfl rfl (by decide) rfl rfl (by first | rfl | omega) (by first | rfl | omega) (.t .h) (fun w hs => celR .h w hs) (by first | rfl | simp) (by (try simp only [List.length_append, List.length_cons, List.length_nil] at *); omega) (by (try simp only [List.length_append, List.length_cons, List.length_nil] at *); omega) ?_
      intro a_5 c_6
      refine s_y (v := .slice a_5 ((ys ++ [(bs.getD k default)]).length) c_6) (y_assign rfl) rfl ?_
      refine wpL_nil ?_
      refine blockS_n ?_
      refine thenS_n ?_
      refine wpS_region ?_
      refine s_y (v := .int .i64 (((k : Nat) : Int))) (y_move h5_1) rfl ?_
      refine s_y (v := .int .i64 ((((k + 1) : Nat) : Int))) (y_add (a := ((k : Nat) : Int)) (b := 1) (c := (((k + 1) : Nat) : Int)) rfl rfl (wI (by omega) (by omega) (by omega))) rfl ?_
      refine s_y (v := .int .i64 ((((k + 1) : Nat) : Int))) (y_assign rfl) rfl ?_
      refine wpL_nil ?_
      refine thenS_n ?_
      exact ⟨_, by omega, ⟨(k + 1), (ys ++ [(bs.getD k default)]), a_5, c_6, rfl, by omega, (by first | omega | (simp only [List.length_append, List.length_cons, List.length_nil]; omega)), (by first | exact kpS_yes (by assumption) (by omega) (by assumption) | exact kpS_no (by assumption) (by omega) (by assumption)), rfl, h0_1, h1_1, rfl, rfl, .p .h (.p (.t .h) (.p (.t .h) (.p (.t .h) (.p (.t .h) .nil))))⟩⟩
    · -- decide (((bs.getD k default).to : Int) ≠ t) false
      have p3 := of_decide_eq_false b3
      refine wpS_skip ?_
      refine blockS_n ?_
      refine thenS_n ?_
      refine wpS_region ?_
      refine s_y (v := .int .i64 (((k : Nat) : Int))) (y_move h5_1) rfl ?_
      refine s_y (v := .int .i64 ((((k + 1) : Nat) : Int))) (y_add (a := ((k : Nat) : Int)) (b := 1) (c := (((k + 1) : Nat) : Int)) rfl rfl (wI (by omega) (by omega) (by omega))) rfl ?_
      refine s_y (v := .int .i64 ((((k + 1) : Nat) : Int))) (y_assign rfl) rfl ?_
      refine wpL_nil ?_
      refine thenS_n ?_
      exact ⟨_, by omega, ⟨(k + 1), ys, a1, c1, rfl, by omega, (by first | omega | (simp only [List.length_append, List.length_cons, List.length_nil]; omega)), (by first | exact kpS_yes (by assumption) (by omega) (by assumption) | exact kpS_no (by assumption) (by omega) (by assumption)), rfl, h0_1, h1_1, h4_1, rfl, .p .h (.p .h (.p .h (.p .h (.p .h .nil))))⟩⟩
  · -- decide (k < bs.length) false
    have p2 := of_decide_eq_false b2
    refine wpS_exit ?_
    refine thenS_x ?_
    refine thenS_x ?_
    refine blockS_h ?_
    refine thenS_n ?_
    refine wpS_region ?_
    refine s_y (v := .pointer (some ⟨wb, 0, none⟩)) (y_move h0_1) rfl ?_
    refine s_y (v := .slice a1 ys.length c1) (y_move h4_1) rfl ?_
    refine s_y (v := .pointer (some ⟨wb, 0, none⟩)) (y_nilP rfl) rfl ?_
    refine s_y (v := .pointer (some ⟨wb, 1, none⟩)) (y_fieldAddr (o' := 1) rfl Try.underlying136 rfl Try.sizeOf134 (by decide) rfl) rfl ?_
    refine s_e0 ?_
    refine e_store (vs := [.slice a1 ys.length c1]) (l' := [.slice ua us.length uc, .slice a1 ys.length c1]) rfl rfl rfl rfl Try.sizeOf134 (.t .h) (Nat.le_of_ble_eq_true rfl) rfl ?_
    refine wpL_nil ?_
    refine fin0 (M := [cel wb 136 [.slice ua us.length uc, .slice a1 ys.length c1], osl ua uc us.length 2 231 (us.flatMap letV), osl a1 c1 ys.length 2 231 (ys.flatMap letV), famb (us ++ ys)]) (.inl rfl) (.p .h (.p (.t .h) (.p .h (.w (.t .h) (famb_sub (by rw [show ys = kpT t bs by rw [← kp_all (t := t) (bs := bs) (k := k) (by omega)]; assumption]; exact kp_sub)) .nil)))) Try.results118 ?_
    exact fun w' hs => ⟨((ua, uc), (a1, c1)), rfl, by rw [show (kpT t bs) = ys from (by rw [← kp_all (t := t) (bs := bs) (k := k) (by omega)]; exact (by assumption : ys = _).symm)]; exact hs⟩

theorem rtake_c (wb : Nat) (ua : Option Addr) (uc : Nat) (ba : Option Addr) (bc : Nat) (us bs : List Let) (t : Int) (w : World) (hul : us.length ≤ 100000) (hbl : bs.length ≤ 100000) (hlo : LOK bs) (hA : SH w (([cel wb 136 [.slice ua us.length uc, .slice ba bs.length bc], osl ua uc us.length 2 231 (us.flatMap letV), osl ba bc bs.length 2 231 (bs.flatMap letV), famb (us ++ bs)] : List Res).flatMap Res.fp) [cel wb 136 [.slice ua us.length uc, .slice ba bs.length bc], osl ua uc us.length 2 231 (us.flatMap letV), osl ba bc bs.length 2 231 (bs.flatMap letV), famb (us ++ bs)] w) : Calls Try.prog 114 #[.pointer (some ⟨wb, 0, none⟩), .int .i64 t] w (fun e w' => ∃ x : (((Option Addr × Nat) × (Option Addr × Nat)) × (Option Addr × Nat)), e = .returned (.tuple #[slV (tkD t bs) x.2, .bool (decide (fdT t bs < bs.length))]) ∧ SH w (([cel wb 136 [.slice ua us.length uc, .slice ba bs.length bc], osl ua uc us.length 2 231 (us.flatMap letV), osl ba bc bs.length 2 231 (bs.flatMap letV), famb (us ++ bs)] : List Res).flatMap Res.fp) [cel wb 136 [.slice x.1.1.1 us.length x.1.1.2, .slice x.1.2.1 ((tkB t bs).length) x.1.2.2], osl x.1.1.1 x.1.1.2 us.length 2 231 (us.flatMap letV), osl x.1.2.1 x.1.2.2 ((tkB t bs).length) 2 231 ((tkB t bs).flatMap letV), famb (us ++ (tkB t bs)), osl x.2.1 x.2.2 ((tkD t bs).length) 1 5 ((tkD t bs).flatMap byteV)] w') := by
  refine calls_S (n := 46) (σ0 := (upd (upd fr0 0 (.pointer (some ⟨wb, 0, none⟩))) 1 (.int .i64 t))) (D := (([cel wb 136 [.slice ua us.length uc, .slice ba bs.length bc], osl ua uc us.length 2 231 (us.flatMap letV), osl ba bc bs.length 2 231 (bs.flatMap letV), famb (us ++ bs)] : List Res).flatMap Res.fp)) (A := [cel wb 136 [.slice ua us.length uc, .slice ba bs.length bc], osl ua uc us.length 2 231 (us.flatMap letV), osl ba bc bs.length 2 231 (bs.flatMap letV), famb (us ++ bs)]) Try.func114 rfl Try.ntmps114 rfl (a2_fr _ _) hA ?_
  have hlk : ∀ {k}, k < bs.length → (bs.getD k default).d.length = (bs.getD k default).n ∧ (bs.getD k default).n ≤ 1000000 := fun h => hlo _ (getL_mem h)
  refine wpS_cap (.t .h) (fun hcapU => ?_)
  refine wpS_cap (.t (.t .h)) (fun hcapB => ?_)
  refine wpS_seq ?_
  refine wpS_region ?_
  refine s_y (v := .slice none 0 0) (y_assign rfl) rfl ?_
  refine s_y (v := .bool false) (y_assign rfl) rfl ?_
  refine wpL_nil ?_
  refine thenS_n ?_
  refine wpS_seq ?_
  refine wpS_seq ?_
  refine wpS_region ?_
  refine s_y (v := .int .i64 0) (y_assign rfl) rfl ?_
  refine wpL_nil ?_
  refine thenS_n ?_
  refine wpS_block ?_
  refine wpS_loop (fun mez ds σ L => ∃ k : Nat, mez = bs.length - k ∧ (k ≤ bs.length) ∧ (NoT t bs k) ∧ ds = [] ∧ σ 0 = .pointer (some ⟨wb, 0, none⟩) ∧ σ 1 = .int .i64 t ∧ σ 6 = .int .i64 (((k : Nat) : Int)) ∧ Ent L [cel wb 136 [.slice ua us.length uc, .slice ba bs.length bc], osl ua uc us.length 2 231 (us.flatMap letV), osl ba bc bs.length 2 231 (bs.flatMap letV), famb (us ++ bs)]) (m0 := bs.length - 0) ⟨0, rfl, by omega, (noT_0 t bs), rfl, rfl, rfl, rfl, .p .h (.p .h (.p .h (.p .h .nil)))⟩ ?_
  rintro mez ds σ L ⟨k, hm_1, hf0_1, hf1_1, rfl, h0_1, h1_1, h6_1, hE_1⟩
  refine wpS_ent hE_1 ?_; clear hE_1
  refine wpS_seq ?_
  refine wpS_seq ?_
  refine wpS_region ?_
  refine s_y (v := .int .i64 (((k : Nat) : Int))) (y_move h6_1) rfl ?_
  refine s_y (v := .pointer (some ⟨wb, 0, none⟩)) (y_move h0_1) rfl ?_
  refine s_y (v := .pointer (some ⟨wb, 0, none⟩)) (y_nilP rfl) rfl ?_
  refine s_y (v := .pointer (some ⟨wb, 1, none⟩)) (y_fieldAddr (o' := 1) rfl Try.underlying136 rfl Try.sizeOf134 (by decide) rfl) rfl ?_
  refine s_y (v := .slice ba bs.length bc) (y_load1 rfl Try.isAgg134 (own1 .h rfl)) rfl ?_
  refine s_y (v := .int .i64 (((bs.length : Nat) : Int))) (y_len (ty' := 0) (at_ := #[]) rfl Try.underlying134) rfl ?_
  refine s_y (v := .bool (decide (k < bs.length))) (y_lss (a := ((k : Nat) : Int)) (b := ((bs.length : Nat) : Int)) (c := decide (k < bs.length)) rfl rfl (decide_eq_decide.2 (by omega))) rfl ?_
  refine wpL_nil ?_
  refine thenS_n ?_
  refine wpS_cond (t := decide (k < bs.length)) rfl (fun b2 => ?_) (fun b2 => ?_)
  · -- decide (k < bs.length) true
    have p2 := of_decide_eq_true b2
    refine wpS_skip ?_
    refine thenS_n ?_
    refine wpS_seq ?_
    refine wpS_block ?_
    refine wpS_seq ?_
    refine wpS_region ?_
    refine s_y (v := .pointer (some ⟨wb, 0, none⟩)) (y_move h0_1) rfl ?_
    refine s_y (v := .pointer (some ⟨wb, 0, none⟩)) (y_nilP rfl) rfl ?_
    refine s_y (v := .pointer (some ⟨wb, 1, none⟩)) (y_fieldAddr (o' := 1) rfl Try.underlying136 rfl Try.sizeOf134 (by decide) rfl) rfl ?_
    refine s_y (v := .slice ba bs.length bc) (y_load1 rfl Try.isAgg134 (own1 .h rfl)) rfl ?_
    refine s_y (v := .int .i64 (((k : Nat) : Int))) (y_move h6_1) rfl ?_
    refine s_y (v := .pointer (some ⟨aB ba, aO ba + k * 2, none⟩)) (y_idx (o := k * 2) rfl rfl Try.underlying134 Try.sizeOf231 (oslR (.t (.t .h))) (fl_len letV_len _) (by decide) (by omega) (by omega) (by omega)) rfl ?_
    refine s_y (v := .pointer (some ⟨aB ba, aO ba + k * 2, none⟩)) (y_fieldAddr (o' := aO ba + k * 2) rfl Try.underlying231 rfl Try.sizeOf3 (by decide) rfl) rfl ?_
    refine s_y (v := .int .i64 ((bs.getD k default).to)) (y_load1 (v := .int .i64 ((bs.getD k default).to)) rfl Try.isAgg3 (rd1 (k := k * 2) (oslR (.t (.t .h))) (fl_get0 letV_len bs k (by first | omega | (simp only [List.length_set, List.length_take, List.length_drop]; done) | (simp only [List.length_set, List.length_take, List.length_drop]; omega)) rfl))) rfl ?_
    refine s_y (v := .int .i64 t) (y_move h1_1) rfl ?_
    refine s_y (v := .bool (decide (((bs.getD k default).to : Int) = t))) (y_eql (a := (bs.getD k default).to) (b := t) rfl rfl rfl) rfl ?_
    refine wpL_nil ?_
    refine thenS_n ?_
    refine wpS_cond (t := decide (((bs.getD k default).to : Int) = t)) rfl (fun b3 => ?_) (fun b3 => ?_)
    · -- decide (((bs.getD k default).to : Int) = t) true
      have p3 := of_decide_eq_true b3
      refine wpS_seq ?_
      refine wpS_region ?_
      refine s_y (v := .pointer (some ⟨wb, 0, none⟩)) (y_move h0_1) rfl ?_
      refine s_y (v := .pointer (some ⟨wb, 0, none⟩)) (y_nilP rfl) rfl ?_
      refine s_y (v := .pointer (some ⟨wb, 1, none⟩)) (y_fieldAddr (o' := 1) rfl Try.underlying136 rfl Try.sizeOf134 (by decide) rfl) rfl ?_
      refine s_y (v := .slice ba bs.length bc) (y_load1 rfl Try.isAgg134 (own1 .h rfl)) rfl ?_
      refine s_y (v := .int .i64 (((k : Nat) : Int))) (y_move h6_1) rfl ?_
      refine s_y (v := .pointer (some ⟨aB ba, aO ba + k * 2, none⟩)) (y_idx (o := k * 2) rfl rfl Try.underlying134 Try.sizeOf231 (oslR (.t (.t .h))) (fl_len letV_len _) (by decide) (by omega) (by omega) (by omega)) rfl ?_
      refine s_y (v := .pointer (some ⟨aB ba, aO ba + k * 2 + 1, none⟩)) (y_fieldAddr (o' := aO ba + k * 2 + 1) rfl Try.underlying231 rfl Try.sizeOf61 (by decide) rfl) rfl ?_
      refine s_y (v := .slice ((bs.getD k default).a) ((bs.getD k default).n) ((bs.getD k default).c)) (y_load1 (v := .slice ((bs.getD k default).a) ((bs.getD k default).n) ((bs.getD k default).c)) rfl Try.isAgg61 (rd1 (k := k * 2 + 1) (oslR (.t (.t .h))) (fl_get1 (f := 1) letV_len bs k (by first | omega | (simp only [List.length_set, List.length_take, List.length_drop]; done) | (simp only [List.length_set, List.length_take, List.length_drop]; omega)) rfl))) rfl ?_
      have hln := hlk (k := k) (by omega)
      refine s_e rfl ?_
      refine e_call (f := 197) (args := #[.slice ((bs.getD k default).a) ((bs.getD k default).n) ((bs.getD k default).c)]) (X := Option Addr × Nat) (A := []) (M := [cel wb 136 [.slice ua us.length uc, .slice ba bs.length bc], osl ua uc us.length 2 231 (us.flatMap letV), osl ba bc bs.length 2 231 (bs.flatMap letV), famb (us ++ bs)]) (V := slV ((bs.getD k default).d)) (A' := fun x => [slR byteV 1 5 ((bs.getD k default).d) x]) (C := fun x => ((bs.getD k default).d).length ≤ x.2) Try.call197 (ev1 rfl) (.p .h (.p .h (.p .h (.p .h .nil)))) (fun w hs => (copyB_c ((bs.getD k default).a) ((bs.getD k default).n) ((bs.getD k default).c) ((bs.getD k default).d) w (hlk (by omega)).1 ((famb_rd (.t (.t (.t .h))) (List.mem_append_right _ (getL_mem (by omega)))) w hs) (by omega)).cap) ?_
      rintro ⟨a_4, c_5⟩ hc6; replace hc6 : ((bs.getD k default).d).length ≤ c_5 := hc6
      refine s_y (v := .slice a_4 (((bs.getD k default).d).length) c_5) (y_assign rfl) rfl ?_
      refine wpL_nil ?_
      refine thenS_n ?_
      refine wpS_seq ?_
      refine wpS_region ?_
      refine s_y (v := .pointer (some ⟨wb, 0, none⟩)) (y_move h0_1) rfl ?_
      refine s_y (v := .pointer (some ⟨wb, 0, none⟩)) (y_move h0_1) rfl ?_
      refine s_y (v := .pointer (some ⟨wb, 0, none⟩)) (y_nilP rfl) rfl ?_
      refine s_y (v := .pointer (some ⟨wb, 1, none⟩)) (y_fieldAddr (o' := 1) rfl Try.underlying136 rfl Try.sizeOf134 (by decide) rfl) rfl ?_
      refine s_y (v := .slice ba bs.length bc) (y_load1 rfl Try.isAgg134 (own1 (.t .h) rfl)) rfl ?_
      refine s_y (v := .int .i64 (((k : Nat) : Int))) (y_move h6_1) rfl ?_
      refine s_e rfl ?_
      refine e_call (f := 196) (args := #[.slice ba bs.length bc, .int .i64 (((k : Nat) : Int))]) (X := Option Addr × Nat) (A := []) (M := [osl a_4 c_5 (((bs.getD k default).d).length) 1 5 (((bs.getD k default).d).flatMap byteV), cel wb 136 [.slice ua us.length uc, .slice ba bs.length bc], osl ua uc us.length 2 231 (us.flatMap letV), osl ba bc bs.length 2 231 (bs.flatMap letV), famb (us ++ bs)]) (V := slV (cutL bs k)) (A' := fun x => [slR letV 2 231 (cutL bs k) x]) (C := fun x => (cutL bs k).length ≤ x.2) Try.call196 (ev2 rfl rfl) (.p .h (.p .h (.p .h (.p .h (.p .h .nil))))) (fun w hs => (rcut_c ba bs.length bc bs k w rfl (oslR (.t (.t (.t .h))) w hs) (by omega) (by omega) (by omega)).cap) ?_
      rintro ⟨a_7, c_8⟩ hc9; replace hc9 : (cutL bs k).length ≤ c_8 := hc9
      refine s_y (v := .pointer (some ⟨wb, 0, none⟩)) (y_nilP rfl) rfl ?_
      refine s_y (v := .pointer (some ⟨wb, 1, none⟩)) (y_fieldAddr (o' := 1) rfl Try.underlying136 rfl Try.sizeOf134 (by decide) rfl) rfl ?_
      refine s_e0 ?_
      refine e_store (vs := [.slice a_7 ((cutL bs k).length) c_8]) (l' := [.slice ua us.length uc, .slice a_7 ((cutL bs k).length) c_8]) rfl rfl rfl rfl Try.sizeOf134 (.t (.t .h)) (Nat.le_of_ble_eq_true rfl) rfl ?_
      refine wpL_nil ?_
      refine thenS_n ?_
      refine wpS_seq ?_
      refine wpS_region ?_
      refine s_y (v := .slice a_4 (((bs.getD k default).d).length) c_5) (y_move rfl) rfl ?_
      refine s_y (v := .slice a_4 (((bs.getD k default).d).length) c_5) (y_assign rfl) rfl ?_
      refine s_y (v := .bool true) (y_assign rfl) rfl ?_
      refine wpL_nil ?_
      refine thenS_n ?_
      refine wpS_ret ?_
      refine blockS_r ?_
      refine thenS_r ?_
      refine thenS_r ?_
      refine blockS_r ?_
      refine thenS_r ?_
      refine fin2 (M := [cel wb 136 [.slice ua us.length uc, .slice a_7 ((cutL bs k).length) c_8], osl ua uc us.length 2 231 (us.flatMap letV), osl a_7 c_8 ((cutL bs k).length) 2 231 ((cutL bs k).flatMap letV), famb (us ++ (cutL bs k)), osl a_4 c_5 (((bs.getD k default).d).length) 1 5 (((bs.getD k default).d).flatMap byteV)]) (.inr rfl) (.p .h (.p (.t (.t .h)) (.p .h (.w (.t (.t .h)) (famb_sub tk_sub) (.p .h .nil))))) Try.results114 (rvT (v := .slice a_4 (((bs.getD k default).d).length) c_5) rfl) (rvT (v := .bool true) rfl) ?_
      obtain ⟨e1, e2, e3⟩ : tkB t bs = (cutL bs k) ∧ tkD t bs = (bs.getD k default).d ∧ decide (fdT t bs < bs.length) = true := tk_1 (by assumption) (by omega) (by assumption)
      exact fun w' hs => ⟨(((ua, uc), (a_7, c_8)), (a_4, c_5)), by rw [e2, e3], by rw [e1, e2]; exact hs⟩
    · -- decide (((bs.getD k default).to : Int) = t) false
      have p3 := of_decide_eq_false b3
      refine wpS_skip ?_
      refine blockS_n ?_
      refine thenS_n ?_
      refine wpS_region ?_
      refine s_y (v := .int .i64 (((k : Nat) : Int))) (y_move h6_1) rfl ?_
      refine s_y (v := .int .i64 ((((k + 1) : Nat) : Int))) (y_add (a := ((k : Nat) : Int)) (b := 1) (c := (((k + 1) : Nat) : Int)) rfl rfl (wI (by omega) (by omega) (by omega))) rfl ?_
      refine s_y (v := .int .i64 ((((k + 1) : Nat) : Int))) (y_assign rfl) rfl ?_
      refine wpL_nil ?_
      refine thenS_n ?_
      exact ⟨_, by omega, ⟨(k + 1), rfl, by omega, (noT_step (by assumption) (by assumption)), rfl, h0_1, h1_1, rfl, .p .h (.p .h (.p .h (.p .h .nil)))⟩⟩
  · -- decide (k < bs.length) false
    have p2 := of_decide_eq_false b2
    refine wpS_exit ?_
    refine thenS_x ?_
    refine thenS_x ?_
    refine blockS_h ?_
    refine thenS_n ?_
    refine wpS_seq ?_
    refine wpS_region ?_
    refine s_y (v := .slice none 0 0) (y_assign rfl) rfl ?_
    refine s_y (v := .bool false) (y_assign rfl) rfl ?_
    refine wpL_nil ?_
    refine thenS_n ?_
    refine wpS_ret ?_
    refine fin2 (M := [cel wb 136 [.slice ua us.length uc, .slice ba bs.length bc], osl ua uc us.length 2 231 (us.flatMap letV), osl ba bc bs.length 2 231 (bs.flatMap letV), famb (us ++ bs)]) (.inr rfl) (.p .h (.p .h (.p .h (.p .h .nil)))) Try.results114 (rvT (v := .slice none 0 0) rfl) (rvT (v := .bool false) rfl) ?_
    obtain ⟨e1, e2, e3⟩ : tkB t bs = bs ∧ tkD t bs = [] ∧ decide (fdT t bs < bs.length) = false := tk_0 (k := bs.length) (by rw [show bs.length = k by omega]; assumption) (by omega)
    exact fun w' hs => ⟨(((ua, uc), (ba, bc)), (none, 0)), by rw [e2, e3]; rfl, by rw [e1, e2]; exact (SH.nil0 (sz := 1) (t := 5) w' hs).ent (.p (.t .h) (.p (.t .h) (.p (.t .h) (.p (.t .h) (.p .h .nil)))))⟩

end Go.Proofs.Ytldkjjnjdjfipaa
