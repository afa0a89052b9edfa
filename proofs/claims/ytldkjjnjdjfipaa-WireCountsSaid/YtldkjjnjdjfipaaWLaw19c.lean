/- WireCounts, walked. -/
import Derived.Test.YtldkjjnjdjfipaaWWir5
import Derived.Test.YtldkjjnjdjfipaaP19d
import Derived.Test.YtldkjjnjdjfipaaP11c
namespace Go.Proofs.Ytldkjjnjdjfipaa
open Go Go.RowKit
set_option linter.unusedVariables false
set_option linter.unusedSimpArgs false
set_option maxRecDepth 10000
set_option maxHeartbeats 1000000

theorem u8_ofN {y : Nat} (h : y < 200) : IntKind.u8.wrap ((y : Nat) : Int) = (((UInt8.ofNat y).toNat : Nat) : Int) := by
  rw [wu8 (by omega), UInt8.toNat_ofNat_of_lt' (by simp [UInt8.size]; omega)]

theorem counts19_law (a : Option Addr) (na ca : Nat) (sl : List Int) (w : World) (hna : sl.length = na) (hra : Rds w a (sl.flatMap intV)) : Pure Try.prog 32 #[.slice a na ca] w (.bool true) := by
  refine calls_S (n := 89) (σ0 := (upd fr0 0 (.slice a na ca))) (D := []) (A := []) Try.func32 rfl Try.ntmps32 rfl (a1_fr _) (SH.start w) ?_
  refine wpS_seq ?_
  refine wpS_region ?_
  refine s_y (v := .bool false) (y_assign rfl) rfl ?_
  refine wpL_nil ?_
  refine thenS_n ?_
  refine wpS_seq ?_
  refine wpS_region ?_
  refine s_e rfl ?_
  refine e_call (f := 102) (args := #[]) (X := Nat) (A := []) (M := []) (V := fun b => .pointer (some ⟨b, 0, none⟩)) (A' := fun b => [cel b 215 [.slice none 0 0, .slice none 0 0]]) (C := fun _ => True) Try.call102 ev0 (.nil) (fun w hs => new_c w) ?_
  rintro wb_1 -
  refine s_y (v := .pointer (some ⟨wb_1, 0, none⟩)) (y_assign rfl) rfl ?_
  refine wpL_nil ?_
  refine thenS_n ?_
  refine wpS_seq ?_
  refine wpS_seq ?_
  refine wpS_region ?_
  refine s_y (v := .bool true) (y_call (args := #[]) (v := .bool true) Try.call103 ev0 (fun w hs => awake19_c w)) rfl ?_
  refine s_y (v := .bool false) (y_notK (b := true) (c := false) rfl rfl) rfl ?_
  refine s_y (v := .bool false) (y_move rfl) rfl ?_
  refine s_gy (y_move rfl) rfl rfl rfl rfl rfl rfl ?_
  refine s_gy (y_ptrEq rfl rfl Try.underlying125 (by kernel_rfl) rfl) rfl rfl rfl rfl rfl rfl ?_
  refine s_y (v := .bool false) (y_pickF (v := .bool false) rfl rfl rfl) rfl ?_
  refine wpL_nil ?_
  refine thenS_n ?_
  refine wpS_cond_f rfl ?_
  refine wpS_skip ?_
  refine thenS_n ?_
  refine wpS_seq ?_
  refine wpS_region ?_
  refine s_y (v := .int .i64 0) (y_assign rfl) rfl ?_
  refine s_y (v := .int .i64 0) (y_assign rfl) rfl ?_
  refine wpL_nil ?_
  refine thenS_n ?_
  refine wpS_seq ?_
  refine wpS_seq ?_
  refine wpS_region ?_
  refine s_y (v := .int .i64 0) (y_assign rfl) rfl ?_
  refine wpL_nil ?_
  refine thenS_n ?_
  refine wpS_block ?_
  refine wpS_sh (fun w hs => famb_nil w (SH.nil0 (sz := 2) (t := 218) w (SH.nil0 (sz := 2) (t := 218) w hs))) ?_
  refine wpS_loop (fun mez ds σ L => ∃ i : Nat, ∃ us : List Let, ∃ bs : List Let, ∃ ua : Option Addr, ∃ uc : Nat, ∃ ba : Option Addr, ∃ bc : Nat, ∃ al : Nat, ∃ tk : Nat, mez = 100 - i ∧ (i ≤ 100) ∧ (WInv us bs al tk i) ∧ ds = [] ∧ σ 0 = .slice a na ca ∧ σ 3 = .pointer (some ⟨wb_1, 0, none⟩) ∧ σ 4 = .int .i64 (((al : Nat) : Int)) ∧ σ 5 = .int .i64 (((tk : Nat) : Int)) ∧ σ 6 = .int .i64 (((i : Nat) : Int)) ∧ Ent L [famb (us ++ bs), osl ba bc bs.length 2 218 (bs.flatMap letV), osl ua uc us.length 2 218 (us.flatMap letV), cel wb_1 215 [.slice ua us.length uc, .slice ba bs.length bc]]) (m0 := 100 - 0) ⟨0, [], [], none, 0, none, 0, 0, 0, rfl, by omega, winv_0, rfl, rfl, rfl, rfl, rfl, rfl, .p .h (.p .h (.p .h (.p .h .nil)))⟩ ?_
  rintro mez ds σ L ⟨i, us, bs, ua, uc, ba, bc, al, tk, hm_2, hf0_2, hf1_2, rfl, h0_2, h3_2, h4_2, h5_2, h6_2, hE_2⟩
  refine wpS_ent hE_2 ?_; clear hE_2
  have hI := (by assumption : WInv us bs al tk i)
  have hu := hI.hu
  have hb := hI.hb
  have hal := hI.hal
  have htk := hI.htk
  refine wpS_seq ?_
  refine wpS_seq ?_
  refine wpS_region ?_
  refine s_y (v := .int .i64 (((i : Nat) : Int))) (y_move h6_2) rfl ?_
  refine s_y (v := .slice a na ca) (y_move h0_2) rfl ?_
  refine s_y (v := .int .i64 (((na : Nat) : Int))) (y_len (ty' := 0) (at_ := #[]) rfl Try.underlying39) rfl ?_
  refine s_y (v := .bool (decide (i < na))) (y_lss (a := ((i : Nat) : Int)) (b := ((na : Nat) : Int)) (c := decide (i < na)) rfl rfl (decide_eq_decide.2 (by omega))) rfl ?_
  refine s_y (v := .bool (decide (i < na))) (y_move rfl) rfl ?_
  rcases Bool.eq_false_or_eq_true (decide (i < na)) with b3 | b3
  · -- decide (i < na) True
    have p3 := of_decide_eq_true b3
    refine s_gy (y_move h6_2) rfl rfl rfl rfl (b' := decide (i < na)) rfl b3 ?_
    refine s_gy (y_lss (a := ((i : Nat) : Int)) (b := 100) (c := decide ((i : Nat) < 100)) rfl rfl (decide_eq_decide.2 (by omega))) rfl rfl rfl rfl (b' := decide (i < na)) rfl b3 ?_
    refine s_y (v := .bool (decide ((i : Nat) < 100))) (y_pickT (b := decide (i < na)) (v := .bool (decide ((i : Nat) < 100))) rfl b3 rfl) rfl ?_
    refine wpL_nil ?_
    refine thenS_n ?_
    refine wpS_cond (t := decide ((i : Nat) < 100)) rfl (fun b4 => ?_) (fun b4 => ?_)
    · -- decide ((i : Nat) < 100) true
      have p4 := of_decide_eq_true b4
      refine wpS_skip ?_
      refine thenS_n ?_
      refine wpS_seq ?_
      refine wpS_block ?_
      refine wpS_seq ?_
      refine wpS_region ?_
      refine s_y (v := .slice a na ca) (y_move h0_2) rfl ?_
      refine s_y (v := .int .i64 (((i : Nat) : Int))) (y_move h6_2) rfl ?_
      refine s_y (v := .pointer (some ⟨aB a, aO a + i * 1, none⟩)) (y_idx (o := i * 1) rfl rfl Try.underlying39 Try.sizeOf3 (oldR hra) ((fl_len intV_len _).trans (by first | omega | (simp only [List.length_set, List.length_take, List.length_drop]; done) | (simp only [List.length_set, List.length_take, List.length_drop]; omega))) (by decide) (by omega) (by omega) (by omega)) rfl ?_
      refine s_y (v := .int .i64 ((sl.getD i default))) (y_load1 (v := .int .i64 ((sl.getD i default))) rfl Try.isAgg3 (rd1 (k := i * 1) (oldR hra) (fl_get0 intV_len sl i (by first | omega | (simp only [List.length_set, List.length_take, List.length_drop]; done) | (simp only [List.length_set, List.length_take, List.length_drop]; omega)) rfl))) rfl ?_
      refine s_y (v := .int .u64 ((((u64of (sl.getD i default)) : Nat) : Int))) (y_convI (a := (sl.getD i default)) (c := (((u64of (sl.getD i default)) : Nat) : Int)) rfl Try.underlying3 Try.underlying46 (u64of_wrap _)) rfl ?_
      refine s_y (v := .int .u64 (((((u64of (sl.getD i default)) % 60) : Nat) : Int))) (y_rem (a := (((u64of (sl.getD i default)) : Nat) : Int)) (b := 60) (c := ((((u64of (sl.getD i default)) % 60) : Nat) : Int)) rfl rfl (by omega) (n_rem _ 60 (by omega))) rfl ?_
      refine s_y (v := .int .i64 (((((u64of (sl.getD i default)) % 60) : Nat) : Int))) (y_convI (a := ((((u64of (sl.getD i default)) % 60) : Nat) : Int)) (c := ((((u64of (sl.getD i default)) % 60) : Nat) : Int)) rfl Try.underlying46 Try.underlying3 (wI rfl (by omega) (by omega))) rfl ?_
      refine s_y (v := .int .i64 (((((u64of (sl.getD i default)) % 60) : Nat) : Int))) (y_assign rfl) rfl ?_
      refine wpL_nil ?_
      refine thenS_n ?_
      refine wpS_seq ?_
      refine wpS_seq ?_
      refine wpS_region ?_
      refine s_y (v := .int .i64 (((((u64of (sl.getD i default)) % 60) : Nat) : Int))) (y_move rfl) rfl ?_
      refine s_y (v := .int .i64 ((((((u64of (sl.getD i default)) % 60) % 6) : Nat) : Int))) (y_rem (a := ((((u64of (sl.getD i default)) % 60) : Nat) : Int)) (b := 6) (c := (((((u64of (sl.getD i default)) % 60) % 6) : Nat) : Int)) rfl rfl (by omega) (n_rem _ 6 (by omega))) rfl ?_
      refine wpL_nil ?_
      refine thenS_n ?_
      refine wpS_block ?_
      refine wpS_seq ?_
      refine wpS_seq ?_
      refine wpS_region ?_
      refine s_y (v := .bool (decide (((((u64of (sl.getD i default)) % 60) % 6) : Nat) = 0))) (y_eql (a := (((((u64of (sl.getD i default)) % 60) % 6) : Nat) : Int)) (b := 0) (c := decide (((((u64of (sl.getD i default)) % 60) % 6) : Nat) = 0)) rfl rfl (decide_eq_decide.2 (by omega))) rfl ?_
      refine s_y (v := .bool (decide (((((u64of (sl.getD i default)) % 60) % 6) : Nat) = 0))) (y_assign rfl) rfl ?_
      refine wpL_nil ?_
      refine thenS_n ?_
      refine wpS_cond (t := decide (((((u64of (sl.getD i default)) % 60) % 6) : Nat) = 0)) rfl (fun b5 => ?_) (fun b5 => ?_)
      · -- decide (((((u64of (sl.getD i default)) % 60) % 6) : Nat) = 0) true
        have p5 := of_decide_eq_true b5
        refine wpS_skip ?_
        refine thenS_n ?_
        refine wpS_cond_T (t := decide (((((u64of (sl.getD i default)) % 60) % 6) : Nat) = 0)) rfl b5 ?_
        refine wpS_seq ?_
        refine wpS_region ?_
        refine s_y (v := .pointer (some ⟨wb_1, 0, none⟩)) (y_move h3_2) rfl ?_
        refine s_y (v := .int .i64 (((((u64of (sl.getD i default)) % 60) : Nat) : Int))) (y_move rfl) rfl ?_
        refine s_y (v := .int .i64 ((((((u64of (sl.getD i default)) % 60) % 2) : Nat) : Int))) (y_rem (a := ((((u64of (sl.getD i default)) % 60) : Nat) : Int)) (b := 2) (c := (((((u64of (sl.getD i default)) % 60) % 2) : Nat) : Int)) rfl rfl (by omega) (n_rem _ 2 (by omega))) rfl ?_
        refine s_y (v := .int .i64 (((((u64of (sl.getD i default)) % 60) : Nat) : Int))) (y_move rfl) rfl ?_
        refine s_y (v := .int .u8 (((UInt8.ofNat ((u64of (sl.getD i default)) % 60)).toNat : Int))) (y_convI (a := ((((u64of (sl.getD i default)) % 60) : Nat) : Int)) (c := ((UInt8.ofNat ((u64of (sl.getD i default)) % 60)).toNat : Int)) rfl Try.underlying3 Try.underlying5 (u8_ofN (by omega))) rfl ?_
        refine s_e rfl ?_
        refine e_bsliceL (e := 5) (m := [(0, .int .u8 (((UInt8.ofNat ((u64of (sl.getD i default)) % 60)).toNat : Int)))]) (l := [.int .u8 (((UInt8.ofNat ((u64of (sl.getD i default)) % 60)).toNat : Int))]) (evc rfl evn) (fun w => by kernel_rfl) ?_
        intro b_6
        refine s_e rfl ?_
        refine e_call (f := 104) (args := #[.pointer (some ⟨wb_1, 0, none⟩), .int .i64 ((((((u64of (sl.getD i default)) % 60) % 2) : Nat) : Int)), .slice (some ⟨b_6, 0, none⟩) 1 1]) (X := ((Option Addr × Nat) × (Option Addr × Nat)) × (Option Addr × Nat)) (A := [cel wb_1 215 [.slice ua us.length uc, .slice ba bs.length bc], osl ua uc us.length 2 218 (us.flatMap letV), osl ba bc bs.length 2 218 (bs.flatMap letV), famb (us ++ bs)]) (M := [cel b_6 5 [.int .u8 (((UInt8.ofNat ((u64of (sl.getD i default)) % 60)).toNat : Int))]]) (V := fun _ => .tuple #[]) (A' := fun x => [cel wb_1 215 [.slice x.1.1.1 ((us ++ [(Let.mk (((((u64of (sl.getD i default)) % 60) % 2) : Nat) : Int) x.2.1 ([(UInt8.ofNat ((u64of (sl.getD i default)) % 60))]).length x.2.2 ([(UInt8.ofNat ((u64of (sl.getD i default)) % 60))]))]).length) x.1.1.2, .slice x.1.2.1 bs.length x.1.2.2], osl x.1.1.1 x.1.1.2 ((us ++ [(Let.mk (((((u64of (sl.getD i default)) % 60) % 2) : Nat) : Int) x.2.1 ([(UInt8.ofNat ((u64of (sl.getD i default)) % 60))]).length x.2.2 ([(UInt8.ofNat ((u64of (sl.getD i default)) % 60))]))]).length) 2 218 ((us ++ [(Let.mk (((((u64of (sl.getD i default)) % 60) % 2) : Nat) : Int) x.2.1 ([(UInt8.ofNat ((u64of (sl.getD i default)) % 60))]).length x.2.2 ([(UInt8.ofNat ((u64of (sl.getD i default)) % 60))]))]).flatMap letV), osl x.1.2.1 x.1.2.2 bs.length 2 218 (bs.flatMap letV), famb ((us ++ [(Let.mk (((((u64of (sl.getD i default)) % 60) % 2) : Nat) : Int) x.2.1 ([(UInt8.ofNat ((u64of (sl.getD i default)) % 60))]).length x.2.2 ([(UInt8.ofNat ((u64of (sl.getD i default)) % 60))]))]) ++ bs)]) (C := fun _ => True) Try.call104 (ev3 rfl rfl rfl) (.p (.t (.t (.t (.t .h)))) (.p (.t (.t (.t .h))) (.p (.t (.t .h)) (.p (.t .h) (.p .h .nil))))) (fun w hs => (send_c wb_1 ua uc ba bc us bs (((((u64of (sl.getD i default)) % 60) % 2) : Nat) : Int) (some ⟨b_6, 0, none⟩) 1 1 ([(UInt8.ofNat ((u64of (sl.getD i default)) % 60))]) w (by first | omega | (simp; done)) rfl (celR (.t (.t (.t (.t .h)))) w hs) (by omega) (fun hl => (show _ ∧ _ from apM (A := [cel wb_1 215 [.slice ua us.length uc, .slice ba bs.length bc], osl ua uc us.length 2 218 (us.flatMap letV), osl ba bc bs.length 2 218 (bs.flatMap letV), famb (us ++ bs)]) hs .h (by simp [cel, blk, aB])).2) (SH.lendW hs)).mono (fun e w2 hx => hx.elim (fun x hx => ⟨x, hx.1, hx.2, trivial⟩))) ?_
        rintro ⟨⟨⟨ua_7, uc_8⟩, ⟨ba_9, bc_10⟩⟩, ⟨la_11, lc_12⟩⟩ -
        have hle13 := cntT_le 0 bs
        have hle14 := cntT_le 1 bs
        have hle15 : (us ++ [(Let.mk (((((u64of (sl.getD i default)) % 60) % 2) : Nat) : Int) la_11 ([(UInt8.ofNat ((u64of (sl.getD i default)) % 60))]).length lc_12 ([(UInt8.ofNat ((u64of (sl.getD i default)) % 60))]))]).length = us.length + 1 := by simp
        refine wpL_nil ?_
        refine thenS_n ?_
        refine wpS_region ?_
        refine s_y (v := .int .i64 (((al : Nat) : Int))) (y_move h4_2) rfl ?_
        refine s_y (v := .int .i64 ((((al + 1) : Nat) : Int))) (y_add (a := ((al : Nat) : Int)) (b := 1) (c := (((al + 1) : Nat) : Int)) rfl rfl (wI (by omega) (by omega) (by omega))) rfl ?_
        refine s_y (v := .int .i64 ((((al + 1) : Nat) : Int))) (y_assign rfl) rfl ?_
        refine wpL_nil ?_
        refine blockS_n ?_
        refine thenS_n ?_
        refine wpS_seq ?_
        refine wpS_region ?_
        refine s_y (v := .pointer (some ⟨wb_1, 0, none⟩)) (y_move h3_2) rfl ?_
        refine s_y (v := .int .i64 ((((us ++ [(Let.mk (((((u64of (sl.getD i default)) % 60) % 2) : Nat) : Int) la_11 ([(UInt8.ofNat ((u64of (sl.getD i default)) % 60))]).length lc_12 ([(UInt8.ofNat ((u64of (sl.getD i default)) % 60))]))]).length : Nat) : Int))) (y_call (args := #[.pointer (some ⟨wb_1, 0, none⟩)]) (v := .int .i64 ((((us ++ [(Let.mk (((((u64of (sl.getD i default)) % 60) % 2) : Nat) : Int) la_11 ([(UInt8.ofNat ((u64of (sl.getD i default)) % 60))]).length lc_12 ([(UInt8.ofNat ((u64of (sl.getD i default)) % 60))]))]).length : Nat) : Int))) Try.call106 (ev1 rfl) (fun w hs => under_c wb_1 ua_7 ((us ++ [(Let.mk (((((u64of (sl.getD i default)) % 60) % 2) : Nat) : Int) la_11 ([(UInt8.ofNat ((u64of (sl.getD i default)) % 60))]).length lc_12 ([(UInt8.ofNat ((u64of (sl.getD i default)) % 60))]))]).length) uc_8 w (own1 .h rfl w hs))) rfl ?_
        refine s_y (v := .pointer (some ⟨wb_1, 0, none⟩)) (y_move h3_2) rfl ?_
        refine s_y (v := .int .i64 ((((cntT 0 bs) : Nat) : Int))) (y_call (args := #[.pointer (some ⟨wb_1, 0, none⟩), .int .i64 0]) (v := .int .i64 ((((cntT 0 bs) : Nat) : Int))) Try.call110 (ev2 rfl rfl) (fun w hs => wait_c wb_1 ba_9 bs.length bc_10 bs 0 w (own1 .h rfl w hs) rfl (oslR (.t (.t .h)) w hs) (by omega))) rfl ?_
        refine s_y (v := .int .i64 (((((us ++ [(Let.mk (((((u64of (sl.getD i default)) % 60) % 2) : Nat) : Int) la_11 ([(UInt8.ofNat ((u64of (sl.getD i default)) % 60))]).length lc_12 ([(UInt8.ofNat ((u64of (sl.getD i default)) % 60))]))]).length + (cntT 0 bs)) : Nat) : Int))) (y_add (a := (((us ++ [(Let.mk (((((u64of (sl.getD i default)) % 60) % 2) : Nat) : Int) la_11 ([(UInt8.ofNat ((u64of (sl.getD i default)) % 60))]).length lc_12 ([(UInt8.ofNat ((u64of (sl.getD i default)) % 60))]))]).length : Nat) : Int)) (b := (((cntT 0 bs) : Nat) : Int)) (c := ((((us ++ [(Let.mk (((((u64of (sl.getD i default)) % 60) % 2) : Nat) : Int) la_11 ([(UInt8.ofNat ((u64of (sl.getD i default)) % 60))]).length lc_12 ([(UInt8.ofNat ((u64of (sl.getD i default)) % 60))]))]).length + (cntT 0 bs)) : Nat) : Int)) rfl rfl (wI (by omega) (by omega) (by omega))) rfl ?_
        refine s_y (v := .pointer (some ⟨wb_1, 0, none⟩)) (y_move h3_2) rfl ?_
        refine s_y (v := .int .i64 ((((cntT 1 bs) : Nat) : Int))) (y_call (args := #[.pointer (some ⟨wb_1, 0, none⟩), .int .i64 1]) (v := .int .i64 ((((cntT 1 bs) : Nat) : Int))) Try.call110 (ev2 rfl rfl) (fun w hs => wait_c wb_1 ba_9 bs.length bc_10 bs 1 w (own1 .h rfl w hs) rfl (oslR (.t (.t .h)) w hs) (by omega))) rfl ?_
        refine s_y (v := .int .i64 ((((((us ++ [(Let.mk (((((u64of (sl.getD i default)) % 60) % 2) : Nat) : Int) la_11 ([(UInt8.ofNat ((u64of (sl.getD i default)) % 60))]).length lc_12 ([(UInt8.ofNat ((u64of (sl.getD i default)) % 60))]))]).length + (cntT 0 bs)) + (cntT 1 bs)) : Nat) : Int))) (y_add (a := ((((us ++ [(Let.mk (((((u64of (sl.getD i default)) % 60) % 2) : Nat) : Int) la_11 ([(UInt8.ofNat ((u64of (sl.getD i default)) % 60))]).length lc_12 ([(UInt8.ofNat ((u64of (sl.getD i default)) % 60))]))]).length + (cntT 0 bs)) : Nat) : Int)) (b := (((cntT 1 bs) : Nat) : Int)) (c := (((((us ++ [(Let.mk (((((u64of (sl.getD i default)) % 60) % 2) : Nat) : Int) la_11 ([(UInt8.ofNat ((u64of (sl.getD i default)) % 60))]).length lc_12 ([(UInt8.ofNat ((u64of (sl.getD i default)) % 60))]))]).length + (cntT 0 bs)) + (cntT 1 bs)) : Nat) : Int)) rfl rfl (wI (by omega) (by omega) (by omega))) rfl ?_
        refine s_y (v := .int .i64 (((tk : Nat) : Int))) (y_move h5_2) rfl ?_
        refine s_y (v := .int .i64 (((((((us ++ [(Let.mk (((((u64of (sl.getD i default)) % 60) % 2) : Nat) : Int) la_11 ([(UInt8.ofNat ((u64of (sl.getD i default)) % 60))]).length lc_12 ([(UInt8.ofNat ((u64of (sl.getD i default)) % 60))]))]).length + (cntT 0 bs)) + (cntT 1 bs)) + tk) : Nat) : Int))) (y_add (a := (((((us ++ [(Let.mk (((((u64of (sl.getD i default)) % 60) % 2) : Nat) : Int) la_11 ([(UInt8.ofNat ((u64of (sl.getD i default)) % 60))]).length lc_12 ([(UInt8.ofNat ((u64of (sl.getD i default)) % 60))]))]).length + (cntT 0 bs)) + (cntT 1 bs)) : Nat) : Int)) (b := ((tk : Nat) : Int)) (c := ((((((us ++ [(Let.mk (((((u64of (sl.getD i default)) % 60) % 2) : Nat) : Int) la_11 ([(UInt8.ofNat ((u64of (sl.getD i default)) % 60))]).length lc_12 ([(UInt8.ofNat ((u64of (sl.getD i default)) % 60))]))]).length + (cntT 0 bs)) + (cntT 1 bs)) + tk) : Nat) : Int)) rfl rfl (wI (by omega) (by omega) (by omega))) rfl ?_
        refine s_y (v := .int .i64 ((((al + 1) : Nat) : Int))) (y_move rfl) rfl ?_
        refine s_y (v := .bool (decide (((((us ++ [(Let.mk (((((u64of (sl.getD i default)) % 60) % 2) : Nat) : Int) la_11 ([(UInt8.ofNat ((u64of (sl.getD i default)) % 60))]).length lc_12 ([(UInt8.ofNat ((u64of (sl.getD i default)) % 60))]))]).length + (cntT 0 bs)) + (cntT 1 bs)) + tk) ≠ (al + 1)))) (y_neq (a := ((((((us ++ [(Let.mk (((((u64of (sl.getD i default)) % 60) % 2) : Nat) : Int) la_11 ([(UInt8.ofNat ((u64of (sl.getD i default)) % 60))]).length lc_12 ([(UInt8.ofNat ((u64of (sl.getD i default)) % 60))]))]).length + (cntT 0 bs)) + (cntT 1 bs)) + tk) : Nat) : Int)) (b := (((al + 1) : Nat) : Int)) (c := decide (((((us ++ [(Let.mk (((((u64of (sl.getD i default)) % 60) % 2) : Nat) : Int) la_11 ([(UInt8.ofNat ((u64of (sl.getD i default)) % 60))]).length lc_12 ([(UInt8.ofNat ((u64of (sl.getD i default)) % 60))]))]).length + (cntT 0 bs)) + (cntT 1 bs)) + tk) ≠ (al + 1))) rfl rfl (decide_eq_decide.2 (by omega))) rfl ?_
        refine wpL_nil ?_
        refine thenS_n ?_
        refine wpS_cond_F (t := decide (((((us ++ [(Let.mk (((((u64of (sl.getD i default)) % 60) % 2) : Nat) : Int) la_11 ([(UInt8.ofNat ((u64of (sl.getD i default)) % 60))]).length lc_12 ([(UInt8.ofNat ((u64of (sl.getD i default)) % 60))]))]).length + (cntT 0 bs)) + (cntT 1 bs)) + tk) ≠ (al + 1))) rfl (decide_eq_false (fun h => h (winv_sum (us := (us ++ [(Let.mk (((((u64of (sl.getD i default)) % 60) % 2) : Nat) : Int) la_11 ([(UInt8.ofNat ((u64of (sl.getD i default)) % 60))]).length lc_12 ([(UInt8.ofNat ((u64of (sl.getD i default)) % 60))]))])) (bs := bs) (i := i + 1) (by first | exact winv_send hI (by omega) (by simp) | exact winv_del hI | exact winv_dbl1 hI (by assumption) | exact winv_dbl0 hI (by assumption) | exact winv_drp1 hI (by assumption) | exact winv_drp0 hI (by assumption) | exact winv_tk1 hI (by assumption) | exact winv_tk0 hI (by assumption))))) ?_
        refine wpS_skip ?_
        refine blockS_n ?_
        refine thenS_n ?_
        refine wpS_region ?_
        refine s_y (v := .int .i64 (((i : Nat) : Int))) (y_move h6_2) rfl ?_
        refine s_y (v := .int .i64 ((((i + 1) : Nat) : Int))) (y_add (a := ((i : Nat) : Int)) (b := 1) (c := (((i + 1) : Nat) : Int)) rfl rfl (wI (by omega) (by omega) (by omega))) rfl ?_
        refine s_y (v := .int .i64 ((((i + 1) : Nat) : Int))) (y_assign rfl) rfl ?_
        refine wpL_nil ?_
        refine thenS_n ?_
        exact ⟨_, by omega, ⟨(i + 1), (us ++ [(Let.mk (((((u64of (sl.getD i default)) % 60) % 2) : Nat) : Int) la_11 ([(UInt8.ofNat ((u64of (sl.getD i default)) % 60))]).length lc_12 ([(UInt8.ofNat ((u64of (sl.getD i default)) % 60))]))]), bs, ua_7, uc_8, ba_9, bc_10, (al + 1), tk, rfl, by omega, (by first | exact winv_send hI (by omega) (by simp) | exact winv_del hI | exact winv_dbl1 hI (by assumption) | exact winv_dbl0 hI (by assumption) | exact winv_drp1 hI (by assumption) | exact winv_drp0 hI (by assumption) | exact winv_tk1 hI (by assumption) | exact winv_tk0 hI (by assumption)), rfl, h0_2, h3_2, rfl, h5_2, rfl, .p (.t (.t (.t .h))) (.p (.t (.t .h)) (.p (.t .h) (.p .h .nil)))⟩⟩
      · -- decide (((((u64of (sl.getD i default)) % 60) % 6) : Nat) = 0) false
        have p5 := of_decide_eq_false b5
        refine wpS_region ?_
        refine s_y (v := .bool (decide (((((u64of (sl.getD i default)) % 60) % 6) : Nat) = 1))) (y_eql (a := (((((u64of (sl.getD i default)) % 60) % 6) : Nat) : Int)) (b := 1) (c := decide (((((u64of (sl.getD i default)) % 60) % 6) : Nat) = 1)) rfl rfl (decide_eq_decide.2 (by omega))) rfl ?_
        refine s_y (v := .bool (decide (((((u64of (sl.getD i default)) % 60) % 6) : Nat) = 1))) (y_assign rfl) rfl ?_
        refine wpL_nil ?_
        refine thenS_n ?_
        refine wpS_cond (t := decide (((((u64of (sl.getD i default)) % 60) % 6) : Nat) = 1)) rfl (fun b16 => ?_) (fun b16 => ?_)
        · -- decide (((((u64of (sl.getD i default)) % 60) % 6) : Nat) = 1) true
          have p16 := of_decide_eq_true b16
          refine wpS_seq ?_
          refine wpS_region ?_
          refine s_y (v := .pointer (some ⟨wb_1, 0, none⟩)) (y_move h3_2) rfl ?_
          refine s_y (v := .int .i64 (((((u64of (sl.getD i default)) % 60) : Nat) : Int))) (y_move rfl) rfl ?_
          refine s_y (v := .int .i64 ((((((u64of (sl.getD i default)) % 60) % 2) : Nat) : Int))) (y_rem (a := ((((u64of (sl.getD i default)) % 60) : Nat) : Int)) (b := 2) (c := (((((u64of (sl.getD i default)) % 60) % 2) : Nat) : Int)) rfl rfl (by omega) (n_rem _ 2 (by omega))) rfl ?_
          refine s_y (v := .int .i64 (((((u64of (sl.getD i default)) % 60) : Nat) : Int))) (y_move rfl) rfl ?_
          refine s_y (v := .int .u8 (((UInt8.ofNat ((u64of (sl.getD i default)) % 60)).toNat : Int))) (y_convI (a := ((((u64of (sl.getD i default)) % 60) : Nat) : Int)) (c := ((UInt8.ofNat ((u64of (sl.getD i default)) % 60)).toNat : Int)) rfl Try.underlying3 Try.underlying5 (u8_ofN (by omega))) rfl ?_
          refine s_e rfl ?_
          refine e_bsliceL (e := 5) (m := [(0, .int .u8 (((UInt8.ofNat ((u64of (sl.getD i default)) % 60)).toNat : Int)))]) (l := [.int .u8 (((UInt8.ofNat ((u64of (sl.getD i default)) % 60)).toNat : Int))]) (evc rfl evn) (fun w => by kernel_rfl) ?_
          intro b_17
          refine s_e rfl ?_
          refine e_call (f := 104) (args := #[.pointer (some ⟨wb_1, 0, none⟩), .int .i64 ((((((u64of (sl.getD i default)) % 60) % 2) : Nat) : Int)), .slice (some ⟨b_17, 0, none⟩) 1 1]) (X := ((Option Addr × Nat) × (Option Addr × Nat)) × (Option Addr × Nat)) (A := [cel wb_1 215 [.slice ua us.length uc, .slice ba bs.length bc], osl ua uc us.length 2 218 (us.flatMap letV), osl ba bc bs.length 2 218 (bs.flatMap letV), famb (us ++ bs)]) (M := [cel b_17 5 [.int .u8 (((UInt8.ofNat ((u64of (sl.getD i default)) % 60)).toNat : Int))]]) (V := fun _ => .tuple #[]) (A' := fun x => [cel wb_1 215 [.slice x.1.1.1 ((us ++ [(Let.mk (((((u64of (sl.getD i default)) % 60) % 2) : Nat) : Int) x.2.1 ([(UInt8.ofNat ((u64of (sl.getD i default)) % 60))]).length x.2.2 ([(UInt8.ofNat ((u64of (sl.getD i default)) % 60))]))]).length) x.1.1.2, .slice x.1.2.1 bs.length x.1.2.2], osl x.1.1.1 x.1.1.2 ((us ++ [(Let.mk (((((u64of (sl.getD i default)) % 60) % 2) : Nat) : Int) x.2.1 ([(UInt8.ofNat ((u64of (sl.getD i default)) % 60))]).length x.2.2 ([(UInt8.ofNat ((u64of (sl.getD i default)) % 60))]))]).length) 2 218 ((us ++ [(Let.mk (((((u64of (sl.getD i default)) % 60) % 2) : Nat) : Int) x.2.1 ([(UInt8.ofNat ((u64of (sl.getD i default)) % 60))]).length x.2.2 ([(UInt8.ofNat ((u64of (sl.getD i default)) % 60))]))]).flatMap letV), osl x.1.2.1 x.1.2.2 bs.length 2 218 (bs.flatMap letV), famb ((us ++ [(Let.mk (((((u64of (sl.getD i default)) % 60) % 2) : Nat) : Int) x.2.1 ([(UInt8.ofNat ((u64of (sl.getD i default)) % 60))]).length x.2.2 ([(UInt8.ofNat ((u64of (sl.getD i default)) % 60))]))]) ++ bs)]) (C := fun _ => True) Try.call104 (ev3 rfl rfl rfl) (.p (.t (.t (.t (.t .h)))) (.p (.t (.t (.t .h))) (.p (.t (.t .h)) (.p (.t .h) (.p .h .nil))))) (fun w hs => (send_c wb_1 ua uc ba bc us bs (((((u64of (sl.getD i default)) % 60) % 2) : Nat) : Int) (some ⟨b_17, 0, none⟩) 1 1 ([(UInt8.ofNat ((u64of (sl.getD i default)) % 60))]) w (by first | omega | (simp; done)) rfl (celR (.t (.t (.t (.t .h)))) w hs) (by omega) (fun hl => (show _ ∧ _ from apM (A := [cel wb_1 215 [.slice ua us.length uc, .slice ba bs.length bc], osl ua uc us.length 2 218 (us.flatMap letV), osl ba bc bs.length 2 218 (bs.flatMap letV), famb (us ++ bs)]) hs .h (by simp [cel, blk, aB])).2) (SH.lendW hs)).mono (fun e w2 hx => hx.elim (fun x hx => ⟨x, hx.1, hx.2, trivial⟩))) ?_
          rintro ⟨⟨⟨ua_18, uc_19⟩, ⟨ba_20, bc_21⟩⟩, ⟨la_22, lc_23⟩⟩ -
          have hle24 := cntT_le 0 bs
          have hle25 := cntT_le 1 bs
          have hle26 : (us ++ [(Let.mk (((((u64of (sl.getD i default)) % 60) % 2) : Nat) : Int) la_22 ([(UInt8.ofNat ((u64of (sl.getD i default)) % 60))]).length lc_23 ([(UInt8.ofNat ((u64of (sl.getD i default)) % 60))]))]).length = us.length + 1 := by simp
          refine wpL_nil ?_
          refine thenS_n ?_
          refine wpS_region ?_
          refine s_y (v := .int .i64 (((al : Nat) : Int))) (y_move h4_2) rfl ?_
          refine s_y (v := .int .i64 ((((al + 1) : Nat) : Int))) (y_add (a := ((al : Nat) : Int)) (b := 1) (c := (((al + 1) : Nat) : Int)) rfl rfl (wI (by omega) (by omega) (by omega))) rfl ?_
          refine s_y (v := .int .i64 ((((al + 1) : Nat) : Int))) (y_assign rfl) rfl ?_
          refine wpL_nil ?_
          refine blockS_n ?_
          refine thenS_n ?_
          refine wpS_seq ?_
          refine wpS_region ?_
          refine s_y (v := .pointer (some ⟨wb_1, 0, none⟩)) (y_move h3_2) rfl ?_
          refine s_y (v := .int .i64 ((((us ++ [(Let.mk (((((u64of (sl.getD i default)) % 60) % 2) : Nat) : Int) la_22 ([(UInt8.ofNat ((u64of (sl.getD i default)) % 60))]).length lc_23 ([(UInt8.ofNat ((u64of (sl.getD i default)) % 60))]))]).length : Nat) : Int))) (y_call (args := #[.pointer (some ⟨wb_1, 0, none⟩)]) (v := .int .i64 ((((us ++ [(Let.mk (((((u64of (sl.getD i default)) % 60) % 2) : Nat) : Int) la_22 ([(UInt8.ofNat ((u64of (sl.getD i default)) % 60))]).length lc_23 ([(UInt8.ofNat ((u64of (sl.getD i default)) % 60))]))]).length : Nat) : Int))) Try.call106 (ev1 rfl) (fun w hs => under_c wb_1 ua_18 ((us ++ [(Let.mk (((((u64of (sl.getD i default)) % 60) % 2) : Nat) : Int) la_22 ([(UInt8.ofNat ((u64of (sl.getD i default)) % 60))]).length lc_23 ([(UInt8.ofNat ((u64of (sl.getD i default)) % 60))]))]).length) uc_19 w (own1 .h rfl w hs))) rfl ?_
          refine s_y (v := .pointer (some ⟨wb_1, 0, none⟩)) (y_move h3_2) rfl ?_
          refine s_y (v := .int .i64 ((((cntT 0 bs) : Nat) : Int))) (y_call (args := #[.pointer (some ⟨wb_1, 0, none⟩), .int .i64 0]) (v := .int .i64 ((((cntT 0 bs) : Nat) : Int))) Try.call110 (ev2 rfl rfl) (fun w hs => wait_c wb_1 ba_20 bs.length bc_21 bs 0 w (own1 .h rfl w hs) rfl (oslR (.t (.t .h)) w hs) (by omega))) rfl ?_
          refine s_y (v := .int .i64 (((((us ++ [(Let.mk (((((u64of (sl.getD i default)) % 60) % 2) : Nat) : Int) la_22 ([(UInt8.ofNat ((u64of (sl.getD i default)) % 60))]).length lc_23 ([(UInt8.ofNat ((u64of (sl.getD i default)) % 60))]))]).length + (cntT 0 bs)) : Nat) : Int))) (y_add (a := (((us ++ [(Let.mk (((((u64of (sl.getD i default)) % 60) % 2) : Nat) : Int) la_22 ([(UInt8.ofNat ((u64of (sl.getD i default)) % 60))]).length lc_23 ([(UInt8.ofNat ((u64of (sl.getD i default)) % 60))]))]).length : Nat) : Int)) (b := (((cntT 0 bs) : Nat) : Int)) (c := ((((us ++ [(Let.mk (((((u64of (sl.getD i default)) % 60) % 2) : Nat) : Int) la_22 ([(UInt8.ofNat ((u64of (sl.getD i default)) % 60))]).length lc_23 ([(UInt8.ofNat ((u64of (sl.getD i default)) % 60))]))]).length + (cntT 0 bs)) : Nat) : Int)) rfl rfl (wI (by omega) (by omega) (by omega))) rfl ?_
          refine s_y (v := .pointer (some ⟨wb_1, 0, none⟩)) (y_move h3_2) rfl ?_
          refine s_y (v := .int .i64 ((((cntT 1 bs) : Nat) : Int))) (y_call (args := #[.pointer (some ⟨wb_1, 0, none⟩), .int .i64 1]) (v := .int .i64 ((((cntT 1 bs) : Nat) : Int))) Try.call110 (ev2 rfl rfl) (fun w hs => wait_c wb_1 ba_20 bs.length bc_21 bs 1 w (own1 .h rfl w hs) rfl (oslR (.t (.t .h)) w hs) (by omega))) rfl ?_
          refine s_y (v := .int .i64 ((((((us ++ [(Let.mk (((((u64of (sl.getD i default)) % 60) % 2) : Nat) : Int) la_22 ([(UInt8.ofNat ((u64of (sl.getD i default)) % 60))]).length lc_23 ([(UInt8.ofNat ((u64of (sl.getD i default)) % 60))]))]).length + (cntT 0 bs)) + (cntT 1 bs)) : Nat) : Int))) (y_add (a := ((((us ++ [(Let.mk (((((u64of (sl.getD i default)) % 60) % 2) : Nat) : Int) la_22 ([(UInt8.ofNat ((u64of (sl.getD i default)) % 60))]).length lc_23 ([(UInt8.ofNat ((u64of (sl.getD i default)) % 60))]))]).length + (cntT 0 bs)) : Nat) : Int)) (b := (((cntT 1 bs) : Nat) : Int)) (c := (((((us ++ [(Let.mk (((((u64of (sl.getD i default)) % 60) % 2) : Nat) : Int) la_22 ([(UInt8.ofNat ((u64of (sl.getD i default)) % 60))]).length lc_23 ([(UInt8.ofNat ((u64of (sl.getD i default)) % 60))]))]).length + (cntT 0 bs)) + (cntT 1 bs)) : Nat) : Int)) rfl rfl (wI (by omega) (by omega) (by omega))) rfl ?_
          refine s_y (v := .int .i64 (((tk : Nat) : Int))) (y_move h5_2) rfl ?_
          refine s_y (v := .int .i64 (((((((us ++ [(Let.mk (((((u64of (sl.getD i default)) % 60) % 2) : Nat) : Int) la_22 ([(UInt8.ofNat ((u64of (sl.getD i default)) % 60))]).length lc_23 ([(UInt8.ofNat ((u64of (sl.getD i default)) % 60))]))]).length + (cntT 0 bs)) + (cntT 1 bs)) + tk) : Nat) : Int))) (y_add (a := (((((us ++ [(Let.mk (((((u64of (sl.getD i default)) % 60) % 2) : Nat) : Int) la_22 ([(UInt8.ofNat ((u64of (sl.getD i default)) % 60))]).length lc_23 ([(UInt8.ofNat ((u64of (sl.getD i default)) % 60))]))]).length + (cntT 0 bs)) + (cntT 1 bs)) : Nat) : Int)) (b := ((tk : Nat) : Int)) (c := ((((((us ++ [(Let.mk (((((u64of (sl.getD i default)) % 60) % 2) : Nat) : Int) la_22 ([(UInt8.ofNat ((u64of (sl.getD i default)) % 60))]).length lc_23 ([(UInt8.ofNat ((u64of (sl.getD i default)) % 60))]))]).length + (cntT 0 bs)) + (cntT 1 bs)) + tk) : Nat) : Int)) rfl rfl (wI (by omega) (by omega) (by omega))) rfl ?_
          refine s_y (v := .int .i64 ((((al + 1) : Nat) : Int))) (y_move rfl) rfl ?_
          refine s_y (v := .bool (decide (((((us ++ [(Let.mk (((((u64of (sl.getD i default)) % 60) % 2) : Nat) : Int) la_22 ([(UInt8.ofNat ((u64of (sl.getD i default)) % 60))]).length lc_23 ([(UInt8.ofNat ((u64of (sl.getD i default)) % 60))]))]).length + (cntT 0 bs)) + (cntT 1 bs)) + tk) ≠ (al + 1)))) (y_neq (a := ((((((us ++ [(Let.mk (((((u64of (sl.getD i default)) % 60) % 2) : Nat) : Int) la_22 ([(UInt8.ofNat ((u64of (sl.getD i default)) % 60))]).length lc_23 ([(UInt8.ofNat ((u64of (sl.getD i default)) % 60))]))]).length + (cntT 0 bs)) + (cntT 1 bs)) + tk) : Nat) : Int)) (b := (((al + 1) : Nat) : Int)) (c := decide (((((us ++ [(Let.mk (((((u64of (sl.getD i default)) % 60) % 2) : Nat) : Int) la_22 ([(UInt8.ofNat ((u64of (sl.getD i default)) % 60))]).length lc_23 ([(UInt8.ofNat ((u64of (sl.getD i default)) % 60))]))]).length + (cntT 0 bs)) + (cntT 1 bs)) + tk) ≠ (al + 1))) rfl rfl (decide_eq_decide.2 (by omega))) rfl ?_
          refine wpL_nil ?_
          refine thenS_n ?_
          refine wpS_cond_F (t := decide (((((us ++ [(Let.mk (((((u64of (sl.getD i default)) % 60) % 2) : Nat) : Int) la_22 ([(UInt8.ofNat ((u64of (sl.getD i default)) % 60))]).length lc_23 ([(UInt8.ofNat ((u64of (sl.getD i default)) % 60))]))]).length + (cntT 0 bs)) + (cntT 1 bs)) + tk) ≠ (al + 1))) rfl (decide_eq_false (fun h => h (winv_sum (us := (us ++ [(Let.mk (((((u64of (sl.getD i default)) % 60) % 2) : Nat) : Int) la_22 ([(UInt8.ofNat ((u64of (sl.getD i default)) % 60))]).length lc_23 ([(UInt8.ofNat ((u64of (sl.getD i default)) % 60))]))])) (bs := bs) (i := i + 1) (by first | exact winv_send hI (by omega) (by simp) | exact winv_del hI | exact winv_dbl1 hI (by assumption) | exact winv_dbl0 hI (by assumption) | exact winv_drp1 hI (by assumption) | exact winv_drp0 hI (by assumption) | exact winv_tk1 hI (by assumption) | exact winv_tk0 hI (by assumption))))) ?_
          refine wpS_skip ?_
          refine blockS_n ?_
          refine thenS_n ?_
          refine wpS_region ?_
          refine s_y (v := .int .i64 (((i : Nat) : Int))) (y_move h6_2) rfl ?_
          refine s_y (v := .int .i64 ((((i + 1) : Nat) : Int))) (y_add (a := ((i : Nat) : Int)) (b := 1) (c := (((i + 1) : Nat) : Int)) rfl rfl (wI (by omega) (by omega) (by omega))) rfl ?_
          refine s_y (v := .int .i64 ((((i + 1) : Nat) : Int))) (y_assign rfl) rfl ?_
          refine wpL_nil ?_
          refine thenS_n ?_
          exact ⟨_, by omega, ⟨(i + 1), (us ++ [(Let.mk (((((u64of (sl.getD i default)) % 60) % 2) : Nat) : Int) la_22 ([(UInt8.ofNat ((u64of (sl.getD i default)) % 60))]).length lc_23 ([(UInt8.ofNat ((u64of (sl.getD i default)) % 60))]))]), bs, ua_18, uc_19, ba_20, bc_21, (al + 1), tk, rfl, by omega, (by first | exact winv_send hI (by omega) (by simp) | exact winv_del hI | exact winv_dbl1 hI (by assumption) | exact winv_dbl0 hI (by assumption) | exact winv_drp1 hI (by assumption) | exact winv_drp0 hI (by assumption) | exact winv_tk1 hI (by assumption) | exact winv_tk0 hI (by assumption)), rfl, h0_2, h3_2, rfl, h5_2, rfl, .p (.t (.t (.t .h))) (.p (.t (.t .h)) (.p (.t .h) (.p .h .nil)))⟩⟩
        · -- decide (((((u64of (sl.getD i default)) % 60) % 6) : Nat) = 1) false
          have p16 := of_decide_eq_false b16
          refine wpS_seq ?_
          refine wpS_region ?_
          refine s_y (v := .bool (decide (((((u64of (sl.getD i default)) % 60) % 6) : Nat) = 2))) (y_eql (a := (((((u64of (sl.getD i default)) % 60) % 6) : Nat) : Int)) (b := 2) (c := decide (((((u64of (sl.getD i default)) % 60) % 6) : Nat) = 2)) rfl rfl (decide_eq_decide.2 (by omega))) rfl ?_
          refine s_y (v := .bool (decide (((((u64of (sl.getD i default)) % 60) % 6) : Nat) = 2))) (y_assign rfl) rfl ?_
          refine wpL_nil ?_
          refine thenS_n ?_
          refine wpS_cond (t := decide (((((u64of (sl.getD i default)) % 60) % 6) : Nat) = 2)) rfl (fun b27 => ?_) (fun b27 => ?_)
          · -- decide (((((u64of (sl.getD i default)) % 60) % 6) : Nat) = 2) true
            have p27 := of_decide_eq_true b27
            refine wpS_region ?_
            refine s_y (v := .pointer (some ⟨wb_1, 0, none⟩)) (y_move h3_2) rfl ?_
            refine s_y (v := .int .i64 (((((u64of (sl.getD i default)) % 60) : Nat) : Int))) (y_move rfl) rfl ?_
            refine s_e rfl ?_
            refine e_call (f := 108) (args := #[.pointer (some ⟨wb_1, 0, none⟩), .int .i64 (((((u64of (sl.getD i default)) % 60) : Nat) : Int))]) (X := (Option Addr × Nat) × (Option Addr × Nat)) (A := [cel wb_1 215 [.slice ua us.length uc, .slice ba bs.length bc], osl ua uc us.length 2 218 (us.flatMap letV), osl ba bc bs.length 2 218 (bs.flatMap letV), famb (us ++ bs)]) (M := []) (V := fun _ => .bool (decide (0 < us.length))) (A' := fun x => [cel wb_1 215 [.slice x.1.1 ((dlU us ((((u64of (sl.getD i default)) % 60) : Nat) : Int)).length) x.1.2, .slice x.2.1 ((dlB us bs ((((u64of (sl.getD i default)) % 60) : Nat) : Int)).length) x.2.2], osl x.1.1 x.1.2 ((dlU us ((((u64of (sl.getD i default)) % 60) : Nat) : Int)).length) 2 218 ((dlU us ((((u64of (sl.getD i default)) % 60) : Nat) : Int)).flatMap letV), osl x.2.1 x.2.2 ((dlB us bs ((((u64of (sl.getD i default)) % 60) : Nat) : Int)).length) 2 218 ((dlB us bs ((((u64of (sl.getD i default)) % 60) : Nat) : Int)).flatMap letV), famb ((dlU us ((((u64of (sl.getD i default)) % 60) : Nat) : Int)) ++ (dlB us bs ((((u64of (sl.getD i default)) % 60) : Nat) : Int)))]) (C := fun _ => True) Try.call108 (ev2 rfl rfl) (.p (.t (.t (.t .h))) (.p (.t (.t .h)) (.p (.t .h) (.p .h .nil)))) (fun w hs => (deliver_c wb_1 ua uc ba bc us bs ((((u64of (sl.getD i default)) % 60) : Nat) : Int) w (by omega) (by omega) (SH.lendW hs)).mono (fun e w2 hx => hx.elim (fun x hx => ⟨x, hx.1, hx.2, trivial⟩))) ?_
            rintro ⟨⟨ua_28, uc_29⟩, ⟨ba_30, bc_31⟩⟩ -
            have hle32 := dlU_le us ((((u64of (sl.getD i default)) % 60) : Nat) : Int)
            have hle33 := dlB_le us bs ((((u64of (sl.getD i default)) % 60) : Nat) : Int)
            have hle34 := cntT_le 0 (dlB us bs ((((u64of (sl.getD i default)) % 60) : Nat) : Int))
            have hle35 := cntT_le 1 (dlB us bs ((((u64of (sl.getD i default)) % 60) : Nat) : Int))
            refine wpL_nil ?_
            refine blockS_n ?_
            refine thenS_n ?_
            refine wpS_seq ?_
            refine wpS_region ?_
            refine s_y (v := .pointer (some ⟨wb_1, 0, none⟩)) (y_move h3_2) rfl ?_
            refine s_y (v := .int .i64 ((((dlU us ((((u64of (sl.getD i default)) % 60) : Nat) : Int)).length : Nat) : Int))) (y_call (args := #[.pointer (some ⟨wb_1, 0, none⟩)]) (v := .int .i64 ((((dlU us ((((u64of (sl.getD i default)) % 60) : Nat) : Int)).length : Nat) : Int))) Try.call106 (ev1 rfl) (fun w hs => under_c wb_1 ua_28 ((dlU us ((((u64of (sl.getD i default)) % 60) : Nat) : Int)).length) uc_29 w (own1 .h rfl w hs))) rfl ?_
            refine s_y (v := .pointer (some ⟨wb_1, 0, none⟩)) (y_move h3_2) rfl ?_
            refine s_y (v := .int .i64 ((((cntT 0 (dlB us bs ((((u64of (sl.getD i default)) % 60) : Nat) : Int))) : Nat) : Int))) (y_call (args := #[.pointer (some ⟨wb_1, 0, none⟩), .int .i64 0]) (v := .int .i64 ((((cntT 0 (dlB us bs ((((u64of (sl.getD i default)) % 60) : Nat) : Int))) : Nat) : Int))) Try.call110 (ev2 rfl rfl) (fun w hs => wait_c wb_1 ba_30 ((dlB us bs ((((u64of (sl.getD i default)) % 60) : Nat) : Int)).length) bc_31 (dlB us bs ((((u64of (sl.getD i default)) % 60) : Nat) : Int)) 0 w (own1 .h rfl w hs) rfl (oslR (.t (.t .h)) w hs) (by omega))) rfl ?_
            refine s_y (v := .int .i64 (((((dlU us ((((u64of (sl.getD i default)) % 60) : Nat) : Int)).length + (cntT 0 (dlB us bs ((((u64of (sl.getD i default)) % 60) : Nat) : Int)))) : Nat) : Int))) (y_add (a := (((dlU us ((((u64of (sl.getD i default)) % 60) : Nat) : Int)).length : Nat) : Int)) (b := (((cntT 0 (dlB us bs ((((u64of (sl.getD i default)) % 60) : Nat) : Int))) : Nat) : Int)) (c := ((((dlU us ((((u64of (sl.getD i default)) % 60) : Nat) : Int)).length + (cntT 0 (dlB us bs ((((u64of (sl.getD i default)) % 60) : Nat) : Int)))) : Nat) : Int)) rfl rfl (wI (by omega) (by omega) (by omega))) rfl ?_
            refine s_y (v := .pointer (some ⟨wb_1, 0, none⟩)) (y_move h3_2) rfl ?_
            refine s_y (v := .int .i64 ((((cntT 1 (dlB us bs ((((u64of (sl.getD i default)) % 60) : Nat) : Int))) : Nat) : Int))) (y_call (args := #[.pointer (some ⟨wb_1, 0, none⟩), .int .i64 1]) (v := .int .i64 ((((cntT 1 (dlB us bs ((((u64of (sl.getD i default)) % 60) : Nat) : Int))) : Nat) : Int))) Try.call110 (ev2 rfl rfl) (fun w hs => wait_c wb_1 ba_30 ((dlB us bs ((((u64of (sl.getD i default)) % 60) : Nat) : Int)).length) bc_31 (dlB us bs ((((u64of (sl.getD i default)) % 60) : Nat) : Int)) 1 w (own1 .h rfl w hs) rfl (oslR (.t (.t .h)) w hs) (by omega))) rfl ?_
            refine s_y (v := .int .i64 ((((((dlU us ((((u64of (sl.getD i default)) % 60) : Nat) : Int)).length + (cntT 0 (dlB us bs ((((u64of (sl.getD i default)) % 60) : Nat) : Int)))) + (cntT 1 (dlB us bs ((((u64of (sl.getD i default)) % 60) : Nat) : Int)))) : Nat) : Int))) (y_add (a := ((((dlU us ((((u64of (sl.getD i default)) % 60) : Nat) : Int)).length + (cntT 0 (dlB us bs ((((u64of (sl.getD i default)) % 60) : Nat) : Int)))) : Nat) : Int)) (b := (((cntT 1 (dlB us bs ((((u64of (sl.getD i default)) % 60) : Nat) : Int))) : Nat) : Int)) (c := (((((dlU us ((((u64of (sl.getD i default)) % 60) : Nat) : Int)).length + (cntT 0 (dlB us bs ((((u64of (sl.getD i default)) % 60) : Nat) : Int)))) + (cntT 1 (dlB us bs ((((u64of (sl.getD i default)) % 60) : Nat) : Int)))) : Nat) : Int)) rfl rfl (wI (by omega) (by omega) (by omega))) rfl ?_
            refine s_y (v := .int .i64 (((tk : Nat) : Int))) (y_move h5_2) rfl ?_
            refine s_y (v := .int .i64 (((((((dlU us ((((u64of (sl.getD i default)) % 60) : Nat) : Int)).length + (cntT 0 (dlB us bs ((((u64of (sl.getD i default)) % 60) : Nat) : Int)))) + (cntT 1 (dlB us bs ((((u64of (sl.getD i default)) % 60) : Nat) : Int)))) + tk) : Nat) : Int))) (y_add (a := (((((dlU us ((((u64of (sl.getD i default)) % 60) : Nat) : Int)).length + (cntT 0 (dlB us bs ((((u64of (sl.getD i default)) % 60) : Nat) : Int)))) + (cntT 1 (dlB us bs ((((u64of (sl.getD i default)) % 60) : Nat) : Int)))) : Nat) : Int)) (b := ((tk : Nat) : Int)) (c := ((((((dlU us ((((u64of (sl.getD i default)) % 60) : Nat) : Int)).length + (cntT 0 (dlB us bs ((((u64of (sl.getD i default)) % 60) : Nat) : Int)))) + (cntT 1 (dlB us bs ((((u64of (sl.getD i default)) % 60) : Nat) : Int)))) + tk) : Nat) : Int)) rfl rfl (wI (by omega) (by omega) (by omega))) rfl ?_
            refine s_y (v := .int .i64 (((al : Nat) : Int))) (y_move h4_2) rfl ?_
            refine s_y (v := .bool (decide (((((dlU us ((((u64of (sl.getD i default)) % 60) : Nat) : Int)).length + (cntT 0 (dlB us bs ((((u64of (sl.getD i default)) % 60) : Nat) : Int)))) + (cntT 1 (dlB us bs ((((u64of (sl.getD i default)) % 60) : Nat) : Int)))) + tk) ≠ al))) (y_neq (a := ((((((dlU us ((((u64of (sl.getD i default)) % 60) : Nat) : Int)).length + (cntT 0 (dlB us bs ((((u64of (sl.getD i default)) % 60) : Nat) : Int)))) + (cntT 1 (dlB us bs ((((u64of (sl.getD i default)) % 60) : Nat) : Int)))) + tk) : Nat) : Int)) (b := ((al : Nat) : Int)) (c := decide (((((dlU us ((((u64of (sl.getD i default)) % 60) : Nat) : Int)).length + (cntT 0 (dlB us bs ((((u64of (sl.getD i default)) % 60) : Nat) : Int)))) + (cntT 1 (dlB us bs ((((u64of (sl.getD i default)) % 60) : Nat) : Int)))) + tk) ≠ al)) rfl rfl (decide_eq_decide.2 (by omega))) rfl ?_
            refine wpL_nil ?_
            refine thenS_n ?_
            refine wpS_cond_F (t := decide (((((dlU us ((((u64of (sl.getD i default)) % 60) : Nat) : Int)).length + (cntT 0 (dlB us bs ((((u64of (sl.getD i default)) % 60) : Nat) : Int)))) + (cntT 1 (dlB us bs ((((u64of (sl.getD i default)) % 60) : Nat) : Int)))) + tk) ≠ al)) rfl (decide_eq_false (fun h => h (winv_sum (us := (dlU us ((((u64of (sl.getD i default)) % 60) : Nat) : Int))) (bs := (dlB us bs ((((u64of (sl.getD i default)) % 60) : Nat) : Int))) (i := i + 1) (by first | exact winv_send hI (by omega) (by simp) | exact winv_del hI | exact winv_dbl1 hI (by assumption) | exact winv_dbl0 hI (by assumption) | exact winv_drp1 hI (by assumption) | exact winv_drp0 hI (by assumption) | exact winv_tk1 hI (by assumption) | exact winv_tk0 hI (by assumption))))) ?_
            refine wpS_skip ?_
            refine blockS_n ?_
            refine thenS_n ?_
            refine wpS_region ?_
            refine s_y (v := .int .i64 (((i : Nat) : Int))) (y_move h6_2) rfl ?_
            refine s_y (v := .int .i64 ((((i + 1) : Nat) : Int))) (y_add (a := ((i : Nat) : Int)) (b := 1) (c := (((i + 1) : Nat) : Int)) rfl rfl (wI (by omega) (by omega) (by omega))) rfl ?_
            refine s_y (v := .int .i64 ((((i + 1) : Nat) : Int))) (y_assign rfl) rfl ?_
            refine wpL_nil ?_
            refine thenS_n ?_
            exact ⟨_, by omega, ⟨(i + 1), (dlU us ((((u64of (sl.getD i default)) % 60) : Nat) : Int)), (dlB us bs ((((u64of (sl.getD i default)) % 60) : Nat) : Int)), ua_28, uc_29, ba_30, bc_31, al, tk, rfl, by omega, (by first | exact winv_send hI (by omega) (by simp) | exact winv_del hI | exact winv_dbl1 hI (by assumption) | exact winv_dbl0 hI (by assumption) | exact winv_drp1 hI (by assumption) | exact winv_drp0 hI (by assumption) | exact winv_tk1 hI (by assumption) | exact winv_tk0 hI (by assumption)), rfl, h0_2, h3_2, h4_2, h5_2, rfl, .p (.t (.t (.t .h))) (.p (.t (.t .h)) (.p (.t .h) (.p .h .nil)))⟩⟩
          · -- decide (((((u64of (sl.getD i default)) % 60) % 6) : Nat) = 2) false
            have p27 := of_decide_eq_false b27
            refine wpS_seq ?_
            refine wpS_region ?_
            refine s_y (v := .bool (decide (((((u64of (sl.getD i default)) % 60) % 6) : Nat) = 3))) (y_eql (a := (((((u64of (sl.getD i default)) % 60) % 6) : Nat) : Int)) (b := 3) (c := decide (((((u64of (sl.getD i default)) % 60) % 6) : Nat) = 3)) rfl rfl (decide_eq_decide.2 (by omega))) rfl ?_
            refine s_y (v := .bool (decide (((((u64of (sl.getD i default)) % 60) % 6) : Nat) = 3))) (y_assign rfl) rfl ?_
            refine wpL_nil ?_
            refine thenS_n ?_
            refine wpS_cond (t := decide (((((u64of (sl.getD i default)) % 60) % 6) : Nat) = 3)) rfl (fun b36 => ?_) (fun b36 => ?_)
            · -- decide (((((u64of (sl.getD i default)) % 60) % 6) : Nat) = 3) true
              have p36 := of_decide_eq_true b36
              refine wpS_seq ?_
              refine wpS_region ?_
              refine s_y (v := .pointer (some ⟨wb_1, 0, none⟩)) (y_move h3_2) rfl ?_
              refine s_y (v := .int .i64 (((((u64of (sl.getD i default)) % 60) : Nat) : Int))) (y_move rfl) rfl ?_
              refine s_e rfl ?_
              refine e_call (f := 105) (args := #[.pointer (some ⟨wb_1, 0, none⟩), .int .i64 (((((u64of (sl.getD i default)) % 60) : Nat) : Int))]) (X := (Option Addr × Nat) × (Option Addr × Nat)) (A := [cel wb_1 215 [.slice ua us.length uc, .slice ba bs.length bc], osl ua uc us.length 2 218 (us.flatMap letV), osl ba bc bs.length 2 218 (bs.flatMap letV), famb (us ++ bs)]) (M := []) (V := fun _ => .bool (decide (0 < us.length))) (A' := fun x => [cel wb_1 215 [.slice x.1.1 ((dbU us ((((u64of (sl.getD i default)) % 60) : Nat) : Int)).length) x.1.2, .slice x.2.1 bs.length x.2.2], osl x.1.1 x.1.2 ((dbU us ((((u64of (sl.getD i default)) % 60) : Nat) : Int)).length) 2 218 ((dbU us ((((u64of (sl.getD i default)) % 60) : Nat) : Int)).flatMap letV), osl x.2.1 x.2.2 bs.length 2 218 (bs.flatMap letV), famb ((dbU us ((((u64of (sl.getD i default)) % 60) : Nat) : Int)) ++ bs)]) (C := fun _ => True) Try.call105 (ev2 rfl rfl) (.p (.t (.t (.t .h))) (.p (.t (.t .h)) (.p (.t .h) (.p .h .nil)))) (fun w hs => (double_c wb_1 ua uc ba bc us bs ((((u64of (sl.getD i default)) % 60) : Nat) : Int) w (by omega) (by omega) (SH.lendW hs)).mono (fun e w2 hx => hx.elim (fun x hx => ⟨x, hx.1, hx.2, trivial⟩))) ?_
              rintro ⟨⟨ua_37, uc_38⟩, ⟨ba_39, bc_40⟩⟩ -
              have hle41 := dbU_le us ((((u64of (sl.getD i default)) % 60) : Nat) : Int)
              have hle42 := cntT_le 0 bs
              have hle43 := cntT_le 1 bs
              refine wpL_nil ?_
              refine thenS_n ?_
              refine wpS_cond (t := decide (0 < us.length)) rfl (fun b44 => ?_) (fun b44 => ?_)
              · -- decide (0 < us.length) true
                have p44 := of_decide_eq_true b44
                refine wpS_region ?_
                refine s_y (v := .int .i64 (((al : Nat) : Int))) (y_move h4_2) rfl ?_
                refine s_y (v := .int .i64 ((((al + 1) : Nat) : Int))) (y_add (a := ((al : Nat) : Int)) (b := 1) (c := (((al + 1) : Nat) : Int)) rfl rfl (wI (by omega) (by omega) (by omega))) rfl ?_
                refine s_y (v := .int .i64 ((((al + 1) : Nat) : Int))) (y_assign rfl) rfl ?_
                refine wpL_nil ?_
                refine blockS_n ?_
                refine thenS_n ?_
                refine wpS_seq ?_
                refine wpS_region ?_
                refine s_y (v := .pointer (some ⟨wb_1, 0, none⟩)) (y_move h3_2) rfl ?_
                refine s_y (v := .int .i64 ((((dbU us ((((u64of (sl.getD i default)) % 60) : Nat) : Int)).length : Nat) : Int))) (y_call (args := #[.pointer (some ⟨wb_1, 0, none⟩)]) (v := .int .i64 ((((dbU us ((((u64of (sl.getD i default)) % 60) : Nat) : Int)).length : Nat) : Int))) Try.call106 (ev1 rfl) (fun w hs => under_c wb_1 ua_37 ((dbU us ((((u64of (sl.getD i default)) % 60) : Nat) : Int)).length) uc_38 w (own1 .h rfl w hs))) rfl ?_
                refine s_y (v := .pointer (some ⟨wb_1, 0, none⟩)) (y_move h3_2) rfl ?_
                refine s_y (v := .int .i64 ((((cntT 0 bs) : Nat) : Int))) (y_call (args := #[.pointer (some ⟨wb_1, 0, none⟩), .int .i64 0]) (v := .int .i64 ((((cntT 0 bs) : Nat) : Int))) Try.call110 (ev2 rfl rfl) (fun w hs => wait_c wb_1 ba_39 bs.length bc_40 bs 0 w (own1 .h rfl w hs) rfl (oslR (.t (.t .h)) w hs) (by omega))) rfl ?_
                refine s_y (v := .int .i64 (((((dbU us ((((u64of (sl.getD i default)) % 60) : Nat) : Int)).length + (cntT 0 bs)) : Nat) : Int))) (y_add (a := (((dbU us ((((u64of (sl.getD i default)) % 60) : Nat) : Int)).length : Nat) : Int)) (b := (((cntT 0 bs) : Nat) : Int)) (c := ((((dbU us ((((u64of (sl.getD i default)) % 60) : Nat) : Int)).length + (cntT 0 bs)) : Nat) : Int)) rfl rfl (wI (by omega) (by omega) (by omega))) rfl ?_
                refine s_y (v := .pointer (some ⟨wb_1, 0, none⟩)) (y_move h3_2) rfl ?_
                refine s_y (v := .int .i64 ((((cntT 1 bs) : Nat) : Int))) (y_call (args := #[.pointer (some ⟨wb_1, 0, none⟩), .int .i64 1]) (v := .int .i64 ((((cntT 1 bs) : Nat) : Int))) Try.call110 (ev2 rfl rfl) (fun w hs => wait_c wb_1 ba_39 bs.length bc_40 bs 1 w (own1 .h rfl w hs) rfl (oslR (.t (.t .h)) w hs) (by omega))) rfl ?_
                refine s_y (v := .int .i64 ((((((dbU us ((((u64of (sl.getD i default)) % 60) : Nat) : Int)).length + (cntT 0 bs)) + (cntT 1 bs)) : Nat) : Int))) (y_add (a := ((((dbU us ((((u64of (sl.getD i default)) % 60) : Nat) : Int)).length + (cntT 0 bs)) : Nat) : Int)) (b := (((cntT 1 bs) : Nat) : Int)) (c := (((((dbU us ((((u64of (sl.getD i default)) % 60) : Nat) : Int)).length + (cntT 0 bs)) + (cntT 1 bs)) : Nat) : Int)) rfl rfl (wI (by omega) (by omega) (by omega))) rfl ?_
                refine s_y (v := .int .i64 (((tk : Nat) : Int))) (y_move h5_2) rfl ?_
                refine s_y (v := .int .i64 (((((((dbU us ((((u64of (sl.getD i default)) % 60) : Nat) : Int)).length + (cntT 0 bs)) + (cntT 1 bs)) + tk) : Nat) : Int))) (y_add (a := (((((dbU us ((((u64of (sl.getD i default)) % 60) : Nat) : Int)).length + (cntT 0 bs)) + (cntT 1 bs)) : Nat) : Int)) (b := ((tk : Nat) : Int)) (c := ((((((dbU us ((((u64of (sl.getD i default)) % 60) : Nat) : Int)).length + (cntT 0 bs)) + (cntT 1 bs)) + tk) : Nat) : Int)) rfl rfl (wI (by omega) (by omega) (by omega))) rfl ?_
                refine s_y (v := .int .i64 ((((al + 1) : Nat) : Int))) (y_move rfl) rfl ?_
                refine s_y (v := .bool (decide (((((dbU us ((((u64of (sl.getD i default)) % 60) : Nat) : Int)).length + (cntT 0 bs)) + (cntT 1 bs)) + tk) ≠ (al + 1)))) (y_neq (a := ((((((dbU us ((((u64of (sl.getD i default)) % 60) : Nat) : Int)).length + (cntT 0 bs)) + (cntT 1 bs)) + tk) : Nat) : Int)) (b := (((al + 1) : Nat) : Int)) (c := decide (((((dbU us ((((u64of (sl.getD i default)) % 60) : Nat) : Int)).length + (cntT 0 bs)) + (cntT 1 bs)) + tk) ≠ (al + 1))) rfl rfl (decide_eq_decide.2 (by omega))) rfl ?_
                refine wpL_nil ?_
                refine thenS_n ?_
                refine wpS_cond_F (t := decide (((((dbU us ((((u64of (sl.getD i default)) % 60) : Nat) : Int)).length + (cntT 0 bs)) + (cntT 1 bs)) + tk) ≠ (al + 1))) rfl (decide_eq_false (fun h => h (winv_sum (us := (dbU us ((((u64of (sl.getD i default)) % 60) : Nat) : Int))) (bs := bs) (i := i + 1) (by first | exact winv_send hI (by omega) (by simp) | exact winv_del hI | exact winv_dbl1 hI (by assumption) | exact winv_dbl0 hI (by assumption) | exact winv_drp1 hI (by assumption) | exact winv_drp0 hI (by assumption) | exact winv_tk1 hI (by assumption) | exact winv_tk0 hI (by assumption))))) ?_
                refine wpS_skip ?_
                refine blockS_n ?_
                refine thenS_n ?_
                refine wpS_region ?_
                refine s_y (v := .int .i64 (((i : Nat) : Int))) (y_move h6_2) rfl ?_
                refine s_y (v := .int .i64 ((((i + 1) : Nat) : Int))) (y_add (a := ((i : Nat) : Int)) (b := 1) (c := (((i + 1) : Nat) : Int)) rfl rfl (wI (by omega) (by omega) (by omega))) rfl ?_
                refine s_y (v := .int .i64 ((((i + 1) : Nat) : Int))) (y_assign rfl) rfl ?_
                refine wpL_nil ?_
                refine thenS_n ?_
                exact ⟨_, by omega, ⟨(i + 1), (dbU us ((((u64of (sl.getD i default)) % 60) : Nat) : Int)), bs, ua_37, uc_38, ba_39, bc_40, (al + 1), tk, rfl, by omega, (by first | exact winv_send hI (by omega) (by simp) | exact winv_del hI | exact winv_dbl1 hI (by assumption) | exact winv_dbl0 hI (by assumption) | exact winv_drp1 hI (by assumption) | exact winv_drp0 hI (by assumption) | exact winv_tk1 hI (by assumption) | exact winv_tk0 hI (by assumption)), rfl, h0_2, h3_2, rfl, h5_2, rfl, .p (.t (.t (.t .h))) (.p (.t (.t .h)) (.p (.t .h) (.p .h .nil)))⟩⟩
              · -- decide (0 < us.length) false
                have p44 := of_decide_eq_false b44
                refine wpS_skip ?_
                refine blockS_n ?_
                refine thenS_n ?_
                refine wpS_seq ?_
                refine wpS_region ?_
                refine s_y (v := .pointer (some ⟨wb_1, 0, none⟩)) (y_move h3_2) rfl ?_
                refine s_y (v := .int .i64 ((((dbU us ((((u64of (sl.getD i default)) % 60) : Nat) : Int)).length : Nat) : Int))) (y_call (args := #[.pointer (some ⟨wb_1, 0, none⟩)]) (v := .int .i64 ((((dbU us ((((u64of (sl.getD i default)) % 60) : Nat) : Int)).length : Nat) : Int))) Try.call106 (ev1 rfl) (fun w hs => under_c wb_1 ua_37 ((dbU us ((((u64of (sl.getD i default)) % 60) : Nat) : Int)).length) uc_38 w (own1 .h rfl w hs))) rfl ?_
                refine s_y (v := .pointer (some ⟨wb_1, 0, none⟩)) (y_move h3_2) rfl ?_
                refine s_y (v := .int .i64 ((((cntT 0 bs) : Nat) : Int))) (y_call (args := #[.pointer (some ⟨wb_1, 0, none⟩), .int .i64 0]) (v := .int .i64 ((((cntT 0 bs) : Nat) : Int))) Try.call110 (ev2 rfl rfl) (fun w hs => wait_c wb_1 ba_39 bs.length bc_40 bs 0 w (own1 .h rfl w hs) rfl (oslR (.t (.t .h)) w hs) (by omega))) rfl ?_
                refine s_y (v := .int .i64 (((((dbU us ((((u64of (sl.getD i default)) % 60) : Nat) : Int)).length + (cntT 0 bs)) : Nat) : Int))) (y_add (a := (((dbU us ((((u64of (sl.getD i default)) % 60) : Nat) : Int)).length : Nat) : Int)) (b := (((cntT 0 bs) : Nat) : Int)) (c := ((((dbU us ((((u64of (sl.getD i default)) % 60) : Nat) : Int)).length + (cntT 0 bs)) : Nat) : Int)) rfl rfl (wI (by omega) (by omega) (by omega))) rfl ?_
                refine s_y (v := .pointer (some ⟨wb_1, 0, none⟩)) (y_move h3_2) rfl ?_
                refine s_y (v := .int .i64 ((((cntT 1 bs) : Nat) : Int))) (y_call (args := #[.pointer (some ⟨wb_1, 0, none⟩), .int .i64 1]) (v := .int .i64 ((((cntT 1 bs) : Nat) : Int))) Try.call110 (ev2 rfl rfl) (fun w hs => wait_c wb_1 ba_39 bs.length bc_40 bs 1 w (own1 .h rfl w hs) rfl (oslR (.t (.t .h)) w hs) (by omega))) rfl ?_
                refine s_y (v := .int .i64 ((((((dbU us ((((u64of (sl.getD i default)) % 60) : Nat) : Int)).length + (cntT 0 bs)) + (cntT 1 bs)) : Nat) : Int))) (y_add (a := ((((dbU us ((((u64of (sl.getD i default)) % 60) : Nat) : Int)).length + (cntT 0 bs)) : Nat) : Int)) (b := (((cntT 1 bs) : Nat) : Int)) (c := (((((dbU us ((((u64of (sl.getD i default)) % 60) : Nat) : Int)).length + (cntT 0 bs)) + (cntT 1 bs)) : Nat) : Int)) rfl rfl (wI (by omega) (by omega) (by omega))) rfl ?_
                refine s_y (v := .int .i64 (((tk : Nat) : Int))) (y_move h5_2) rfl ?_
                refine s_y (v := .int .i64 (((((((dbU us ((((u64of (sl.getD i default)) % 60) : Nat) : Int)).length + (cntT 0 bs)) + (cntT 1 bs)) + tk) : Nat) : Int))) (y_add (a := (((((dbU us ((((u64of (sl.getD i default)) % 60) : Nat) : Int)).length + (cntT 0 bs)) + (cntT 1 bs)) : Nat) : Int)) (b := ((tk : Nat) : Int)) (c := ((((((dbU us ((((u64of (sl.getD i default)) % 60) : Nat) : Int)).length + (cntT 0 bs)) + (cntT 1 bs)) + tk) : Nat) : Int)) rfl rfl (wI (by omega) (by omega) (by omega))) rfl ?_
                refine s_y (v := .int .i64 (((al : Nat) : Int))) (y_move h4_2) rfl ?_
                refine s_y (v := .bool (decide (((((dbU us ((((u64of (sl.getD i default)) % 60) : Nat) : Int)).length + (cntT 0 bs)) + (cntT 1 bs)) + tk) ≠ al))) (y_neq (a := ((((((dbU us ((((u64of (sl.getD i default)) % 60) : Nat) : Int)).length + (cntT 0 bs)) + (cntT 1 bs)) + tk) : Nat) : Int)) (b := ((al : Nat) : Int)) (c := decide (((((dbU us ((((u64of (sl.getD i default)) % 60) : Nat) : Int)).length + (cntT 0 bs)) + (cntT 1 bs)) + tk) ≠ al)) rfl rfl (decide_eq_decide.2 (by omega))) rfl ?_
                refine wpL_nil ?_
                refine thenS_n ?_
                refine wpS_cond_F (t := decide (((((dbU us ((((u64of (sl.getD i default)) % 60) : Nat) : Int)).length + (cntT 0 bs)) + (cntT 1 bs)) + tk) ≠ al)) rfl (decide_eq_false (fun h => h (winv_sum (us := (dbU us ((((u64of (sl.getD i default)) % 60) : Nat) : Int))) (bs := bs) (i := i + 1) (by first | exact winv_send hI (by omega) (by simp) | exact winv_del hI | exact winv_dbl1 hI (by assumption) | exact winv_dbl0 hI (by assumption) | exact winv_drp1 hI (by assumption) | exact winv_drp0 hI (by assumption) | exact winv_tk1 hI (by assumption) | exact winv_tk0 hI (by assumption))))) ?_
                refine wpS_skip ?_
                refine blockS_n ?_
                refine thenS_n ?_
                refine wpS_region ?_
                refine s_y (v := .int .i64 (((i : Nat) : Int))) (y_move h6_2) rfl ?_
                refine s_y (v := .int .i64 ((((i + 1) : Nat) : Int))) (y_add (a := ((i : Nat) : Int)) (b := 1) (c := (((i + 1) : Nat) : Int)) rfl rfl (wI (by omega) (by omega) (by omega))) rfl ?_
                refine s_y (v := .int .i64 ((((i + 1) : Nat) : Int))) (y_assign rfl) rfl ?_
                refine wpL_nil ?_
                refine thenS_n ?_
                exact ⟨_, by omega, ⟨(i + 1), (dbU us ((((u64of (sl.getD i default)) % 60) : Nat) : Int)), bs, ua_37, uc_38, ba_39, bc_40, al, tk, rfl, by omega, (by first | exact winv_send hI (by omega) (by simp) | exact winv_del hI | exact winv_dbl1 hI (by assumption) | exact winv_dbl0 hI (by assumption) | exact winv_drp1 hI (by assumption) | exact winv_drp0 hI (by assumption) | exact winv_tk1 hI (by assumption) | exact winv_tk0 hI (by assumption)), rfl, h0_2, h3_2, h4_2, h5_2, rfl, .p (.t (.t (.t .h))) (.p (.t (.t .h)) (.p (.t .h) (.p .h .nil)))⟩⟩
            · -- decide (((((u64of (sl.getD i default)) % 60) % 6) : Nat) = 3) false
              have p36 := of_decide_eq_false b36
              refine wpS_seq ?_
              refine wpS_region ?_
              refine s_y (v := .bool (decide (((((u64of (sl.getD i default)) % 60) % 6) : Nat) = 4))) (y_eql (a := (((((u64of (sl.getD i default)) % 60) % 6) : Nat) : Int)) (b := 4) (c := decide (((((u64of (sl.getD i default)) % 60) % 6) : Nat) = 4)) rfl rfl (decide_eq_decide.2 (by omega))) rfl ?_
              refine s_y (v := .bool (decide (((((u64of (sl.getD i default)) % 60) % 6) : Nat) = 4))) (y_assign rfl) rfl ?_
              refine wpL_nil ?_
              refine thenS_n ?_
              refine wpS_cond (t := decide (((((u64of (sl.getD i default)) % 60) % 6) : Nat) = 4)) rfl (fun b45 => ?_) (fun b45 => ?_)
              · -- decide (((((u64of (sl.getD i default)) % 60) % 6) : Nat) = 4) true
                have p45 := of_decide_eq_true b45
                refine wpS_seq ?_
                refine wpS_region ?_
                refine s_y (v := .pointer (some ⟨wb_1, 0, none⟩)) (y_move h3_2) rfl ?_
                refine s_y (v := .int .i64 (((((u64of (sl.getD i default)) % 60) : Nat) : Int))) (y_move rfl) rfl ?_
                refine s_e rfl ?_
                refine e_call (f := 107) (args := #[.pointer (some ⟨wb_1, 0, none⟩), .int .i64 (((((u64of (sl.getD i default)) % 60) : Nat) : Int))]) (X := (Option Addr × Nat) × (Option Addr × Nat)) (A := [cel wb_1 215 [.slice ua us.length uc, .slice ba bs.length bc], osl ua uc us.length 2 218 (us.flatMap letV), osl ba bc bs.length 2 218 (bs.flatMap letV), famb (us ++ bs)]) (M := []) (V := fun _ => .bool (decide (0 < us.length))) (A' := fun x => [cel wb_1 215 [.slice x.1.1 ((dlU us ((((u64of (sl.getD i default)) % 60) : Nat) : Int)).length) x.1.2, .slice x.2.1 bs.length x.2.2], osl x.1.1 x.1.2 ((dlU us ((((u64of (sl.getD i default)) % 60) : Nat) : Int)).length) 2 218 ((dlU us ((((u64of (sl.getD i default)) % 60) : Nat) : Int)).flatMap letV), osl x.2.1 x.2.2 bs.length 2 218 (bs.flatMap letV), famb ((dlU us ((((u64of (sl.getD i default)) % 60) : Nat) : Int)) ++ bs)]) (C := fun _ => True) Try.call107 (ev2 rfl rfl) (.p (.t (.t (.t .h))) (.p (.t (.t .h)) (.p (.t .h) (.p .h .nil)))) (fun w hs => (drop_c wb_1 ua uc ba bc us bs ((((u64of (sl.getD i default)) % 60) : Nat) : Int) w (by omega) (by omega) (SH.lendW hs)).mono (fun e w2 hx => hx.elim (fun x hx => ⟨x, hx.1, hx.2, trivial⟩))) ?_
                rintro ⟨⟨ua_46, uc_47⟩, ⟨ba_48, bc_49⟩⟩ -
                have hle50 := dlU_le us ((((u64of (sl.getD i default)) % 60) : Nat) : Int)
                have hle51 := cntT_le 0 bs
                have hle52 := cntT_le 1 bs
                refine wpL_nil ?_
                refine thenS_n ?_
                refine wpS_cond (t := decide (0 < us.length)) rfl (fun b53 => ?_) (fun b53 => ?_)
                · -- decide (0 < us.length) true
                  have p53 := of_decide_eq_true b53
                  refine wpS_region ?_
                  refine s_y (v := .int .i64 (((tk : Nat) : Int))) (y_move h5_2) rfl ?_
                  refine s_y (v := .int .i64 ((((tk + 1) : Nat) : Int))) (y_add (a := ((tk : Nat) : Int)) (b := 1) (c := (((tk + 1) : Nat) : Int)) rfl rfl (wI (by omega) (by omega) (by omega))) rfl ?_
                  refine s_y (v := .int .i64 ((((tk + 1) : Nat) : Int))) (y_assign rfl) rfl ?_
                  refine wpL_nil ?_
                  refine blockS_n ?_
                  refine thenS_n ?_
                  refine wpS_seq ?_
                  refine wpS_region ?_
                  refine s_y (v := .pointer (some ⟨wb_1, 0, none⟩)) (y_move h3_2) rfl ?_
                  refine s_y (v := .int .i64 ((((dlU us ((((u64of (sl.getD i default)) % 60) : Nat) : Int)).length : Nat) : Int))) (y_call (args := #[.pointer (some ⟨wb_1, 0, none⟩)]) (v := .int .i64 ((((dlU us ((((u64of (sl.getD i default)) % 60) : Nat) : Int)).length : Nat) : Int))) Try.call106 (ev1 rfl) (fun w hs => under_c wb_1 ua_46 ((dlU us ((((u64of (sl.getD i default)) % 60) : Nat) : Int)).length) uc_47 w (own1 .h rfl w hs))) rfl ?_
                  refine s_y (v := .pointer (some ⟨wb_1, 0, none⟩)) (y_move h3_2) rfl ?_
                  refine s_y (v := .int .i64 ((((cntT 0 bs) : Nat) : Int))) (y_call (args := #[.pointer (some ⟨wb_1, 0, none⟩), .int .i64 0]) (v := .int .i64 ((((cntT 0 bs) : Nat) : Int))) Try.call110 (ev2 rfl rfl) (fun w hs => wait_c wb_1 ba_48 bs.length bc_49 bs 0 w (own1 .h rfl w hs) rfl (oslR (.t (.t .h)) w hs) (by omega))) rfl ?_
                  refine s_y (v := .int .i64 (((((dlU us ((((u64of (sl.getD i default)) % 60) : Nat) : Int)).length + (cntT 0 bs)) : Nat) : Int))) (y_add (a := (((dlU us ((((u64of (sl.getD i default)) % 60) : Nat) : Int)).length : Nat) : Int)) (b := (((cntT 0 bs) : Nat) : Int)) (c := ((((dlU us ((((u64of (sl.getD i default)) % 60) : Nat) : Int)).length + (cntT 0 bs)) : Nat) : Int)) rfl rfl (wI (by omega) (by omega) (by omega))) rfl ?_
                  refine s_y (v := .pointer (some ⟨wb_1, 0, none⟩)) (y_move h3_2) rfl ?_
                  refine s_y (v := .int .i64 ((((cntT 1 bs) : Nat) : Int))) (y_call (args := #[.pointer (some ⟨wb_1, 0, none⟩), .int .i64 1]) (v := .int .i64 ((((cntT 1 bs) : Nat) : Int))) Try.call110 (ev2 rfl rfl) (fun w hs => wait_c wb_1 ba_48 bs.length bc_49 bs 1 w (own1 .h rfl w hs) rfl (oslR (.t (.t .h)) w hs) (by omega))) rfl ?_
                  refine s_y (v := .int .i64 ((((((dlU us ((((u64of (sl.getD i default)) % 60) : Nat) : Int)).length + (cntT 0 bs)) + (cntT 1 bs)) : Nat) : Int))) (y_add (a := ((((dlU us ((((u64of (sl.getD i default)) % 60) : Nat) : Int)).length + (cntT 0 bs)) : Nat) : Int)) (b := (((cntT 1 bs) : Nat) : Int)) (c := (((((dlU us ((((u64of (sl.getD i default)) % 60) : Nat) : Int)).length + (cntT 0 bs)) + (cntT 1 bs)) : Nat) : Int)) rfl rfl (wI (by omega) (by omega) (by omega))) rfl ?_
                  refine s_y (v := .int .i64 ((((tk + 1) : Nat) : Int))) (y_move rfl) rfl ?_
                  refine s_y (v := .int .i64 (((((((dlU us ((((u64of (sl.getD i default)) % 60) : Nat) : Int)).length + (cntT 0 bs)) + (cntT 1 bs)) + (tk + 1)) : Nat) : Int))) (y_add (a := (((((dlU us ((((u64of (sl.getD i default)) % 60) : Nat) : Int)).length + (cntT 0 bs)) + (cntT 1 bs)) : Nat) : Int)) (b := (((tk + 1) : Nat) : Int)) (c := ((((((dlU us ((((u64of (sl.getD i default)) % 60) : Nat) : Int)).length + (cntT 0 bs)) + (cntT 1 bs)) + (tk + 1)) : Nat) : Int)) rfl rfl (wI (by omega) (by omega) (by omega))) rfl ?_
                  refine s_y (v := .int .i64 (((al : Nat) : Int))) (y_move h4_2) rfl ?_
                  refine s_y (v := .bool (decide (((((dlU us ((((u64of (sl.getD i default)) % 60) : Nat) : Int)).length + (cntT 0 bs)) + (cntT 1 bs)) + (tk + 1)) ≠ al))) (y_neq (a := ((((((dlU us ((((u64of (sl.getD i default)) % 60) : Nat) : Int)).length + (cntT 0 bs)) + (cntT 1 bs)) + (tk + 1)) : Nat) : Int)) (b := ((al : Nat) : Int)) (c := decide (((((dlU us ((((u64of (sl.getD i default)) % 60) : Nat) : Int)).length + (cntT 0 bs)) + (cntT 1 bs)) + (tk + 1)) ≠ al)) rfl rfl (decide_eq_decide.2 (by omega))) rfl ?_
                  refine wpL_nil ?_
                  refine thenS_n ?_
                  refine wpS_cond_F (t := decide (((((dlU us ((((u64of (sl.getD i default)) % 60) : Nat) : Int)).length + (cntT 0 bs)) + (cntT 1 bs)) + (tk + 1)) ≠ al)) rfl (decide_eq_false (fun h => h (winv_sum (us := (dlU us ((((u64of (sl.getD i default)) % 60) : Nat) : Int))) (bs := bs) (i := i + 1) (by first | exact winv_send hI (by omega) (by simp) | exact winv_del hI | exact winv_dbl1 hI (by assumption) | exact winv_dbl0 hI (by assumption) | exact winv_drp1 hI (by assumption) | exact winv_drp0 hI (by assumption) | exact winv_tk1 hI (by assumption) | exact winv_tk0 hI (by assumption))))) ?_
                  refine wpS_skip ?_
                  refine blockS_n ?_
                  refine thenS_n ?_
                  refine wpS_region ?_
                  refine s_y (v := .int .i64 (((i : Nat) : Int))) (y_move h6_2) rfl ?_
                  refine s_y (v := .int .i64 ((((i + 1) : Nat) : Int))) (y_add (a := ((i : Nat) : Int)) (b := 1) (c := (((i + 1) : Nat) : Int)) rfl rfl (wI (by omega) (by omega) (by omega))) rfl ?_
                  refine s_y (v := .int .i64 ((((i + 1) : Nat) : Int))) (y_assign rfl) rfl ?_
                  refine wpL_nil ?_
                  refine thenS_n ?_
                  exact ⟨_, by omega, ⟨(i + 1), (dlU us ((((u64of (sl.getD i default)) % 60) : Nat) : Int)), bs, ua_46, uc_47, ba_48, bc_49, al, (tk + 1), rfl, by omega, (by first | exact winv_send hI (by omega) (by simp) | exact winv_del hI | exact winv_dbl1 hI (by assumption) | exact winv_dbl0 hI (by assumption) | exact winv_drp1 hI (by assumption) | exact winv_drp0 hI (by assumption) | exact winv_tk1 hI (by assumption) | exact winv_tk0 hI (by assumption)), rfl, h0_2, h3_2, h4_2, rfl, rfl, .p (.t (.t (.t .h))) (.p (.t (.t .h)) (.p (.t .h) (.p .h .nil)))⟩⟩
                · -- decide (0 < us.length) false
                  have p53 := of_decide_eq_false b53
                  refine wpS_skip ?_
                  refine blockS_n ?_
                  refine thenS_n ?_
                  refine wpS_seq ?_
                  refine wpS_region ?_
                  refine s_y (v := .pointer (some ⟨wb_1, 0, none⟩)) (y_move h3_2) rfl ?_
                  refine s_y (v := .int .i64 ((((dlU us ((((u64of (sl.getD i default)) % 60) : Nat) : Int)).length : Nat) : Int))) (y_call (args := #[.pointer (some ⟨wb_1, 0, none⟩)]) (v := .int .i64 ((((dlU us ((((u64of (sl.getD i default)) % 60) : Nat) : Int)).length : Nat) : Int))) Try.call106 (ev1 rfl) (fun w hs => under_c wb_1 ua_46 ((dlU us ((((u64of (sl.getD i default)) % 60) : Nat) : Int)).length) uc_47 w (own1 .h rfl w hs))) rfl ?_
                  refine s_y (v := .pointer (some ⟨wb_1, 0, none⟩)) (y_move h3_2) rfl ?_
                  refine s_y (v := .int .i64 ((((cntT 0 bs) : Nat) : Int))) (y_call (args := #[.pointer (some ⟨wb_1, 0, none⟩), .int .i64 0]) (v := .int .i64 ((((cntT 0 bs) : Nat) : Int))) Try.call110 (ev2 rfl rfl) (fun w hs => wait_c wb_1 ba_48 bs.length bc_49 bs 0 w (own1 .h rfl w hs) rfl (oslR (.t (.t .h)) w hs) (by omega))) rfl ?_
                  refine s_y (v := .int .i64 (((((dlU us ((((u64of (sl.getD i default)) % 60) : Nat) : Int)).length + (cntT 0 bs)) : Nat) : Int))) (y_add (a := (((dlU us ((((u64of (sl.getD i default)) % 60) : Nat) : Int)).length : Nat) : Int)) (b := (((cntT 0 bs) : Nat) : Int)) (c := ((((dlU us ((((u64of (sl.getD i default)) % 60) : Nat) : Int)).length + (cntT 0 bs)) : Nat) : Int)) rfl rfl (wI (by omega) (by omega) (by omega))) rfl ?_
                  refine s_y (v := .pointer (some ⟨wb_1, 0, none⟩)) (y_move h3_2) rfl ?_
                  refine s_y (v := .int .i64 ((((cntT 1 bs) : Nat) : Int))) (y_call (args := #[.pointer (some ⟨wb_1, 0, none⟩), .int .i64 1]) (v := .int .i64 ((((cntT 1 bs) : Nat) : Int))) Try.call110 (ev2 rfl rfl) (fun w hs => wait_c wb_1 ba_48 bs.length bc_49 bs 1 w (own1 .h rfl w hs) rfl (oslR (.t (.t .h)) w hs) (by omega))) rfl ?_
                  refine s_y (v := .int .i64 ((((((dlU us ((((u64of (sl.getD i default)) % 60) : Nat) : Int)).length + (cntT 0 bs)) + (cntT 1 bs)) : Nat) : Int))) (y_add (a := ((((dlU us ((((u64of (sl.getD i default)) % 60) : Nat) : Int)).length + (cntT 0 bs)) : Nat) : Int)) (b := (((cntT 1 bs) : Nat) : Int)) (c := (((((dlU us ((((u64of (sl.getD i default)) % 60) : Nat) : Int)).length + (cntT 0 bs)) + (cntT 1 bs)) : Nat) : Int)) rfl rfl (wI (by omega) (by omega) (by omega))) rfl ?_
                  refine s_y (v := .int .i64 (((tk : Nat) : Int))) (y_move h5_2) rfl ?_
                  refine s_y (v := .int .i64 (((((((dlU us ((((u64of (sl.getD i default)) % 60) : Nat) : Int)).length + (cntT 0 bs)) + (cntT 1 bs)) + tk) : Nat) : Int))) (y_add (a := (((((dlU us ((((u64of (sl.getD i default)) % 60) : Nat) : Int)).length + (cntT 0 bs)) + (cntT 1 bs)) : Nat) : Int)) (b := ((tk : Nat) : Int)) (c := ((((((dlU us ((((u64of (sl.getD i default)) % 60) : Nat) : Int)).length + (cntT 0 bs)) + (cntT 1 bs)) + tk) : Nat) : Int)) rfl rfl (wI (by omega) (by omega) (by omega))) rfl ?_
                  refine s_y (v := .int .i64 (((al : Nat) : Int))) (y_move h4_2) rfl ?_
                  refine s_y (v := .bool (decide (((((dlU us ((((u64of (sl.getD i default)) % 60) : Nat) : Int)).length + (cntT 0 bs)) + (cntT 1 bs)) + tk) ≠ al))) (y_neq (a := ((((((dlU us ((((u64of (sl.getD i default)) % 60) : Nat) : Int)).length + (cntT 0 bs)) + (cntT 1 bs)) + tk) : Nat) : Int)) (b := ((al : Nat) : Int)) (c := decide (((((dlU us ((((u64of (sl.getD i default)) % 60) : Nat) : Int)).length + (cntT 0 bs)) + (cntT 1 bs)) + tk) ≠ al)) rfl rfl (decide_eq_decide.2 (by omega))) rfl ?_
                  refine wpL_nil ?_
                  refine thenS_n ?_
                  refine wpS_cond_F (t := decide (((((dlU us ((((u64of (sl.getD i default)) % 60) : Nat) : Int)).length + (cntT 0 bs)) + (cntT 1 bs)) + tk) ≠ al)) rfl (decide_eq_false (fun h => h (winv_sum (us := (dlU us ((((u64of (sl.getD i default)) % 60) : Nat) : Int))) (bs := bs) (i := i + 1) (by first | exact winv_send hI (by omega) (by simp) | exact winv_del hI | exact winv_dbl1 hI (by assumption) | exact winv_dbl0 hI (by assumption) | exact winv_drp1 hI (by assumption) | exact winv_drp0 hI (by assumption) | exact winv_tk1 hI (by assumption) | exact winv_tk0 hI (by assumption))))) ?_
                  refine wpS_skip ?_
                  refine blockS_n ?_
                  refine thenS_n ?_
                  refine wpS_region ?_
                  refine s_y (v := .int .i64 (((i : Nat) : Int))) (y_move h6_2) rfl ?_
                  refine s_y (v := .int .i64 ((((i + 1) : Nat) : Int))) (y_add (a := ((i : Nat) : Int)) (b := 1) (c := (((i + 1) : Nat) : Int)) rfl rfl (wI (by omega) (by omega) (by omega))) rfl ?_
                  refine s_y (v := .int .i64 ((((i + 1) : Nat) : Int))) (y_assign rfl) rfl ?_
                  refine wpL_nil ?_
                  refine thenS_n ?_
                  exact ⟨_, by omega, ⟨(i + 1), (dlU us ((((u64of (sl.getD i default)) % 60) : Nat) : Int)), bs, ua_46, uc_47, ba_48, bc_49, al, tk, rfl, by omega, (by first | exact winv_send hI (by omega) (by simp) | exact winv_del hI | exact winv_dbl1 hI (by assumption) | exact winv_dbl0 hI (by assumption) | exact winv_drp1 hI (by assumption) | exact winv_drp0 hI (by assumption) | exact winv_tk1 hI (by assumption) | exact winv_tk0 hI (by assumption)), rfl, h0_2, h3_2, h4_2, h5_2, rfl, .p (.t (.t (.t .h))) (.p (.t (.t .h)) (.p (.t .h) (.p .h .nil)))⟩⟩
              · -- decide (((((u64of (sl.getD i default)) % 60) % 6) : Nat) = 4) false
                have p45 := of_decide_eq_false b45
                refine wpS_seq ?_
                refine wpS_region ?_
                refine s_y (v := .pointer (some ⟨wb_1, 0, none⟩)) (y_move h3_2) rfl ?_
                refine s_y (v := .int .i64 (((((u64of (sl.getD i default)) % 60) : Nat) : Int))) (y_move rfl) rfl ?_
                refine s_y (v := .int .i64 ((((((u64of (sl.getD i default)) % 60) % 2) : Nat) : Int))) (y_rem (a := ((((u64of (sl.getD i default)) % 60) : Nat) : Int)) (b := 2) (c := (((((u64of (sl.getD i default)) % 60) % 2) : Nat) : Int)) rfl rfl (by omega) (n_rem _ 2 (by omega))) rfl ?_
                refine s_e rfl ?_
                refine e_call (f := 109) (args := #[.pointer (some ⟨wb_1, 0, none⟩), .int .i64 ((((((u64of (sl.getD i default)) % 60) % 2) : Nat) : Int))]) (X := ((Option Addr × Nat) × (Option Addr × Nat)) × (Option Addr × Nat)) (A := [cel wb_1 215 [.slice ua us.length uc, .slice ba bs.length bc], osl ua uc us.length 2 218 (us.flatMap letV), osl ba bc bs.length 2 218 (bs.flatMap letV), famb (us ++ bs)]) (M := []) (V := fun x => .tuple #[slV (tkD (((((u64of (sl.getD i default)) % 60) % 2) : Nat) : Int) bs) x.2, .bool (decide (fdT (((((u64of (sl.getD i default)) % 60) % 2) : Nat) : Int) bs < bs.length))]) (A' := fun x => [cel wb_1 215 [.slice x.1.1.1 us.length x.1.1.2, .slice x.1.2.1 ((tkB (((((u64of (sl.getD i default)) % 60) % 2) : Nat) : Int) bs).length) x.1.2.2], osl x.1.1.1 x.1.1.2 us.length 2 218 (us.flatMap letV), osl x.1.2.1 x.1.2.2 ((tkB (((((u64of (sl.getD i default)) % 60) % 2) : Nat) : Int) bs).length) 2 218 ((tkB (((((u64of (sl.getD i default)) % 60) % 2) : Nat) : Int) bs).flatMap letV), famb (us ++ (tkB (((((u64of (sl.getD i default)) % 60) % 2) : Nat) : Int) bs)), osl x.2.1 x.2.2 ((tkD (((((u64of (sl.getD i default)) % 60) % 2) : Nat) : Int) bs).length) 1 5 ((tkD (((((u64of (sl.getD i default)) % 60) % 2) : Nat) : Int) bs).flatMap byteV)]) (C := fun _ => True) Try.call109 (ev2 rfl rfl) (.p (.t (.t (.t .h))) (.p (.t (.t .h)) (.p (.t .h) (.p .h .nil)))) (fun w hs => (take_c wb_1 ua uc ba bc us bs (((((u64of (sl.getD i default)) % 60) % 2) : Nat) : Int) w (by omega) (by omega) (winv_lok hI) (SH.lendW hs)).mono (fun e w2 hx => hx.elim (fun x hx => ⟨x, hx.1, hx.2, trivial⟩))) ?_
                rintro ⟨⟨⟨ua_54, uc_55⟩, ⟨ba_56, bc_57⟩⟩, ⟨la_58, lc_59⟩⟩ -
                have hle61 := tkB_le (((((u64of (sl.getD i default)) % 60) % 2) : Nat) : Int) bs
                have hle62 := cntT_le 0 (tkB (((((u64of (sl.getD i default)) % 60) % 2) : Nat) : Int) bs)
                have hle63 := cntT_le 1 (tkB (((((u64of (sl.getD i default)) % 60) % 2) : Nat) : Int) bs)
                refine s_y (v := .tuple #[.slice la_58 ((tkD (((((u64of (sl.getD i default)) % 60) % 2) : Nat) : Int) bs).length) lc_59, .bool (decide (fdT (((((u64of (sl.getD i default)) % 60) % 2) : Nat) : Int) bs < bs.length))]) (y_move rfl) rfl ?_
                refine s_y (v := .slice la_58 ((tkD (((((u64of (sl.getD i default)) % 60) % 2) : Nat) : Int) bs).length) lc_59) (y_extract (v := .slice la_58 ((tkD (((((u64of (sl.getD i default)) % 60) % 2) : Nat) : Int) bs).length) lc_59) rfl rfl) rfl ?_
                refine s_y (v := .bool (decide (fdT (((((u64of (sl.getD i default)) % 60) % 2) : Nat) : Int) bs < bs.length))) (y_extract (v := .bool (decide (fdT (((((u64of (sl.getD i default)) % 60) % 2) : Nat) : Int) bs < bs.length))) rfl rfl) rfl ?_
                refine s_y (v := .slice la_58 ((tkD (((((u64of (sl.getD i default)) % 60) % 2) : Nat) : Int) bs).length) lc_59) (y_assign rfl) rfl ?_
                refine s_y (v := .bool (decide (fdT (((((u64of (sl.getD i default)) % 60) % 2) : Nat) : Int) bs < bs.length))) (y_assign rfl) rfl ?_
                refine wpL_nil ?_
                refine thenS_n ?_
                refine wpS_seq ?_
                refine wpS_region ?_
                refine s_y (v := .bool (decide (fdT (((((u64of (sl.getD i default)) % 60) % 2) : Nat) : Int) bs < bs.length))) (y_move rfl) rfl ?_
                refine wpL_nil ?_
                refine thenS_n ?_
                refine wpS_cond (t := decide (fdT (((((u64of (sl.getD i default)) % 60) % 2) : Nat) : Int) bs < bs.length)) rfl (fun b64 => ?_) (fun b64 => ?_)
                · -- decide (fdT (((((u64of (sl.getD i default)) % 60) % 2) : Nat) : Int) bs < bs.length) true
                  have p64 := of_decide_eq_true b64
                  refine wpS_region ?_
                  refine s_y (v := .int .i64 (((tk : Nat) : Int))) (y_move h5_2) rfl ?_
                  refine s_y (v := .int .i64 ((((tk + 1) : Nat) : Int))) (y_add (a := ((tk : Nat) : Int)) (b := 1) (c := (((tk + 1) : Nat) : Int)) rfl rfl (wI (by omega) (by omega) (by omega))) rfl ?_
                  refine s_y (v := .int .i64 ((((tk + 1) : Nat) : Int))) (y_assign rfl) rfl ?_
                  refine wpL_nil ?_
                  refine blockS_n ?_
                  refine thenS_n ?_
                  refine wpS_seq ?_
                  refine wpS_region ?_
                  refine s_y (v := .pointer (some ⟨wb_1, 0, none⟩)) (y_move h3_2) rfl ?_
                  refine s_y (v := .int .i64 (((us.length : Nat) : Int))) (y_call (args := #[.pointer (some ⟨wb_1, 0, none⟩)]) (v := .int .i64 (((us.length : Nat) : Int))) Try.call106 (ev1 rfl) (fun w hs => under_c wb_1 ua_54 us.length uc_55 w (own1 .h rfl w hs))) rfl ?_
                  refine s_y (v := .pointer (some ⟨wb_1, 0, none⟩)) (y_move h3_2) rfl ?_
                  refine s_y (v := .int .i64 ((((cntT 0 (tkB (((((u64of (sl.getD i default)) % 60) % 2) : Nat) : Int) bs)) : Nat) : Int))) (y_call (args := #[.pointer (some ⟨wb_1, 0, none⟩), .int .i64 0]) (v := .int .i64 ((((cntT 0 (tkB (((((u64of (sl.getD i default)) % 60) % 2) : Nat) : Int) bs)) : Nat) : Int))) Try.call110 (ev2 rfl rfl) (fun w hs => wait_c wb_1 ba_56 ((tkB (((((u64of (sl.getD i default)) % 60) % 2) : Nat) : Int) bs).length) bc_57 (tkB (((((u64of (sl.getD i default)) % 60) % 2) : Nat) : Int) bs) 0 w (own1 .h rfl w hs) rfl (oslR (.t (.t .h)) w hs) (by omega))) rfl ?_
                  refine s_y (v := .int .i64 ((((us.length + (cntT 0 (tkB (((((u64of (sl.getD i default)) % 60) % 2) : Nat) : Int) bs))) : Nat) : Int))) (y_add (a := ((us.length : Nat) : Int)) (b := (((cntT 0 (tkB (((((u64of (sl.getD i default)) % 60) % 2) : Nat) : Int) bs)) : Nat) : Int)) (c := (((us.length + (cntT 0 (tkB (((((u64of (sl.getD i default)) % 60) % 2) : Nat) : Int) bs))) : Nat) : Int)) rfl rfl (wI (by omega) (by omega) (by omega))) rfl ?_
                  refine s_y (v := .pointer (some ⟨wb_1, 0, none⟩)) (y_move h3_2) rfl ?_
                  refine s_y (v := .int .i64 ((((cntT 1 (tkB (((((u64of (sl.getD i default)) % 60) % 2) : Nat) : Int) bs)) : Nat) : Int))) (y_call (args := #[.pointer (some ⟨wb_1, 0, none⟩), .int .i64 1]) (v := .int .i64 ((((cntT 1 (tkB (((((u64of (sl.getD i default)) % 60) % 2) : Nat) : Int) bs)) : Nat) : Int))) Try.call110 (ev2 rfl rfl) (fun w hs => wait_c wb_1 ba_56 ((tkB (((((u64of (sl.getD i default)) % 60) % 2) : Nat) : Int) bs).length) bc_57 (tkB (((((u64of (sl.getD i default)) % 60) % 2) : Nat) : Int) bs) 1 w (own1 .h rfl w hs) rfl (oslR (.t (.t .h)) w hs) (by omega))) rfl ?_
                  refine s_y (v := .int .i64 (((((us.length + (cntT 0 (tkB (((((u64of (sl.getD i default)) % 60) % 2) : Nat) : Int) bs))) + (cntT 1 (tkB (((((u64of (sl.getD i default)) % 60) % 2) : Nat) : Int) bs))) : Nat) : Int))) (y_add (a := (((us.length + (cntT 0 (tkB (((((u64of (sl.getD i default)) % 60) % 2) : Nat) : Int) bs))) : Nat) : Int)) (b := (((cntT 1 (tkB (((((u64of (sl.getD i default)) % 60) % 2) : Nat) : Int) bs)) : Nat) : Int)) (c := ((((us.length + (cntT 0 (tkB (((((u64of (sl.getD i default)) % 60) % 2) : Nat) : Int) bs))) + (cntT 1 (tkB (((((u64of (sl.getD i default)) % 60) % 2) : Nat) : Int) bs))) : Nat) : Int)) rfl rfl (wI (by omega) (by omega) (by omega))) rfl ?_
                  refine s_y (v := .int .i64 ((((tk + 1) : Nat) : Int))) (y_move rfl) rfl ?_
                  refine s_y (v := .int .i64 ((((((us.length + (cntT 0 (tkB (((((u64of (sl.getD i default)) % 60) % 2) : Nat) : Int) bs))) + (cntT 1 (tkB (((((u64of (sl.getD i default)) % 60) % 2) : Nat) : Int) bs))) + (tk + 1)) : Nat) : Int))) (y_add (a := ((((us.length + (cntT 0 (tkB (((((u64of (sl.getD i default)) % 60) % 2) : Nat) : Int) bs))) + (cntT 1 (tkB (((((u64of (sl.getD i default)) % 60) % 2) : Nat) : Int) bs))) : Nat) : Int)) (b := (((tk + 1) : Nat) : Int)) (c := (((((us.length + (cntT 0 (tkB (((((u64of (sl.getD i default)) % 60) % 2) : Nat) : Int) bs))) + (cntT 1 (tkB (((((u64of (sl.getD i default)) % 60) % 2) : Nat) : Int) bs))) + (tk + 1)) : Nat) : Int)) rfl rfl (wI (by omega) (by omega) (by omega))) rfl ?_
                  refine s_y (v := .int .i64 (((al : Nat) : Int))) (y_move h4_2) rfl ?_
                  refine s_y (v := .bool (decide ((((us.length + (cntT 0 (tkB (((((u64of (sl.getD i default)) % 60) % 2) : Nat) : Int) bs))) + (cntT 1 (tkB (((((u64of (sl.getD i default)) % 60) % 2) : Nat) : Int) bs))) + (tk + 1)) ≠ al))) (y_neq (a := (((((us.length + (cntT 0 (tkB (((((u64of (sl.getD i default)) % 60) % 2) : Nat) : Int) bs))) + (cntT 1 (tkB (((((u64of (sl.getD i default)) % 60) % 2) : Nat) : Int) bs))) + (tk + 1)) : Nat) : Int)) (b := ((al : Nat) : Int)) (c := decide ((((us.length + (cntT 0 (tkB (((((u64of (sl.getD i default)) % 60) % 2) : Nat) : Int) bs))) + (cntT 1 (tkB (((((u64of (sl.getD i default)) % 60) % 2) : Nat) : Int) bs))) + (tk + 1)) ≠ al)) rfl rfl (decide_eq_decide.2 (by omega))) rfl ?_
                  refine wpL_nil ?_
                  refine thenS_n ?_
                  refine wpS_cond_F (t := decide ((((us.length + (cntT 0 (tkB (((((u64of (sl.getD i default)) % 60) % 2) : Nat) : Int) bs))) + (cntT 1 (tkB (((((u64of (sl.getD i default)) % 60) % 2) : Nat) : Int) bs))) + (tk + 1)) ≠ al)) rfl (decide_eq_false (fun h => h (winv_sum (us := us) (bs := (tkB (((((u64of (sl.getD i default)) % 60) % 2) : Nat) : Int) bs)) (i := i + 1) (by first | exact winv_send hI (by omega) (by simp) | exact winv_del hI | exact winv_dbl1 hI (by assumption) | exact winv_dbl0 hI (by assumption) | exact winv_drp1 hI (by assumption) | exact winv_drp0 hI (by assumption) | exact winv_tk1 hI (by assumption) | exact winv_tk0 hI (by assumption))))) ?_
                  refine wpS_skip ?_
                  refine blockS_n ?_
                  refine thenS_n ?_
                  refine wpS_region ?_
                  refine s_y (v := .int .i64 (((i : Nat) : Int))) (y_move h6_2) rfl ?_
                  refine s_y (v := .int .i64 ((((i + 1) : Nat) : Int))) (y_add (a := ((i : Nat) : Int)) (b := 1) (c := (((i + 1) : Nat) : Int)) rfl rfl (wI (by omega) (by omega) (by omega))) rfl ?_
                  refine s_y (v := .int .i64 ((((i + 1) : Nat) : Int))) (y_assign rfl) rfl ?_
                  refine wpL_nil ?_
                  refine thenS_n ?_
                  exact ⟨_, by omega, ⟨(i + 1), us, (tkB (((((u64of (sl.getD i default)) % 60) % 2) : Nat) : Int) bs), ua_54, uc_55, ba_56, bc_57, al, (tk + 1), rfl, by omega, (by first | exact winv_send hI (by omega) (by simp) | exact winv_del hI | exact winv_dbl1 hI (by assumption) | exact winv_dbl0 hI (by assumption) | exact winv_drp1 hI (by assumption) | exact winv_drp0 hI (by assumption) | exact winv_tk1 hI (by assumption) | exact winv_tk0 hI (by assumption)), rfl, h0_2, h3_2, h4_2, rfl, rfl, .p (.t (.t (.t .h))) (.p (.t (.t .h)) (.p (.t .h) (.p .h .nil)))⟩⟩
                · -- decide (fdT (((((u64of (sl.getD i default)) % 60) % 2) : Nat) : Int) bs < bs.length) false
                  have p64 := of_decide_eq_false b64
                  refine wpS_skip ?_
                  refine blockS_n ?_
                  refine thenS_n ?_
                  refine wpS_seq ?_
                  refine wpS_region ?_
                  refine s_y (v := .pointer (some ⟨wb_1, 0, none⟩)) (y_move h3_2) rfl ?_
                  refine s_y (v := .int .i64 (((us.length : Nat) : Int))) (y_call (args := #[.pointer (some ⟨wb_1, 0, none⟩)]) (v := .int .i64 (((us.length : Nat) : Int))) Try.call106 (ev1 rfl) (fun w hs => under_c wb_1 ua_54 us.length uc_55 w (own1 .h rfl w hs))) rfl ?_
                  refine s_y (v := .pointer (some ⟨wb_1, 0, none⟩)) (y_move h3_2) rfl ?_
                  refine s_y (v := .int .i64 ((((cntT 0 (tkB (((((u64of (sl.getD i default)) % 60) % 2) : Nat) : Int) bs)) : Nat) : Int))) (y_call (args := #[.pointer (some ⟨wb_1, 0, none⟩), .int .i64 0]) (v := .int .i64 ((((cntT 0 (tkB (((((u64of (sl.getD i default)) % 60) % 2) : Nat) : Int) bs)) : Nat) : Int))) Try.call110 (ev2 rfl rfl) (fun w hs => wait_c wb_1 ba_56 ((tkB (((((u64of (sl.getD i default)) % 60) % 2) : Nat) : Int) bs).length) bc_57 (tkB (((((u64of (sl.getD i default)) % 60) % 2) : Nat) : Int) bs) 0 w (own1 .h rfl w hs) rfl (oslR (.t (.t .h)) w hs) (by omega))) rfl ?_
                  refine s_y (v := .int .i64 ((((us.length + (cntT 0 (tkB (((((u64of (sl.getD i default)) % 60) % 2) : Nat) : Int) bs))) : Nat) : Int))) (y_add (a := ((us.length : Nat) : Int)) (b := (((cntT 0 (tkB (((((u64of (sl.getD i default)) % 60) % 2) : Nat) : Int) bs)) : Nat) : Int)) (c := (((us.length + (cntT 0 (tkB (((((u64of (sl.getD i default)) % 60) % 2) : Nat) : Int) bs))) : Nat) : Int)) rfl rfl (wI (by omega) (by omega) (by omega))) rfl ?_
                  refine s_y (v := .pointer (some ⟨wb_1, 0, none⟩)) (y_move h3_2) rfl ?_
                  refine s_y (v := .int .i64 ((((cntT 1 (tkB (((((u64of (sl.getD i default)) % 60) % 2) : Nat) : Int) bs)) : Nat) : Int))) (y_call (args := #[.pointer (some ⟨wb_1, 0, none⟩), .int .i64 1]) (v := .int .i64 ((((cntT 1 (tkB (((((u64of (sl.getD i default)) % 60) % 2) : Nat) : Int) bs)) : Nat) : Int))) Try.call110 (ev2 rfl rfl) (fun w hs => wait_c wb_1 ba_56 ((tkB (((((u64of (sl.getD i default)) % 60) % 2) : Nat) : Int) bs).length) bc_57 (tkB (((((u64of (sl.getD i default)) % 60) % 2) : Nat) : Int) bs) 1 w (own1 .h rfl w hs) rfl (oslR (.t (.t .h)) w hs) (by omega))) rfl ?_
                  refine s_y (v := .int .i64 (((((us.length + (cntT 0 (tkB (((((u64of (sl.getD i default)) % 60) % 2) : Nat) : Int) bs))) + (cntT 1 (tkB (((((u64of (sl.getD i default)) % 60) % 2) : Nat) : Int) bs))) : Nat) : Int))) (y_add (a := (((us.length + (cntT 0 (tkB (((((u64of (sl.getD i default)) % 60) % 2) : Nat) : Int) bs))) : Nat) : Int)) (b := (((cntT 1 (tkB (((((u64of (sl.getD i default)) % 60) % 2) : Nat) : Int) bs)) : Nat) : Int)) (c := ((((us.length + (cntT 0 (tkB (((((u64of (sl.getD i default)) % 60) % 2) : Nat) : Int) bs))) + (cntT 1 (tkB (((((u64of (sl.getD i default)) % 60) % 2) : Nat) : Int) bs))) : Nat) : Int)) rfl rfl (wI (by omega) (by omega) (by omega))) rfl ?_
                  refine s_y (v := .int .i64 (((tk : Nat) : Int))) (y_move h5_2) rfl ?_
                  refine s_y (v := .int .i64 ((((((us.length + (cntT 0 (tkB (((((u64of (sl.getD i default)) % 60) % 2) : Nat) : Int) bs))) + (cntT 1 (tkB (((((u64of (sl.getD i default)) % 60) % 2) : Nat) : Int) bs))) + tk) : Nat) : Int))) (y_add (a := ((((us.length + (cntT 0 (tkB (((((u64of (sl.getD i default)) % 60) % 2) : Nat) : Int) bs))) + (cntT 1 (tkB (((((u64of (sl.getD i default)) % 60) % 2) : Nat) : Int) bs))) : Nat) : Int)) (b := ((tk : Nat) : Int)) (c := (((((us.length + (cntT 0 (tkB (((((u64of (sl.getD i default)) % 60) % 2) : Nat) : Int) bs))) + (cntT 1 (tkB (((((u64of (sl.getD i default)) % 60) % 2) : Nat) : Int) bs))) + tk) : Nat) : Int)) rfl rfl (wI (by omega) (by omega) (by omega))) rfl ?_
                  refine s_y (v := .int .i64 (((al : Nat) : Int))) (y_move h4_2) rfl ?_
                  refine s_y (v := .bool (decide ((((us.length + (cntT 0 (tkB (((((u64of (sl.getD i default)) % 60) % 2) : Nat) : Int) bs))) + (cntT 1 (tkB (((((u64of (sl.getD i default)) % 60) % 2) : Nat) : Int) bs))) + tk) ≠ al))) (y_neq (a := (((((us.length + (cntT 0 (tkB (((((u64of (sl.getD i default)) % 60) % 2) : Nat) : Int) bs))) + (cntT 1 (tkB (((((u64of (sl.getD i default)) % 60) % 2) : Nat) : Int) bs))) + tk) : Nat) : Int)) (b := ((al : Nat) : Int)) (c := decide ((((us.length + (cntT 0 (tkB (((((u64of (sl.getD i default)) % 60) % 2) : Nat) : Int) bs))) + (cntT 1 (tkB (((((u64of (sl.getD i default)) % 60) % 2) : Nat) : Int) bs))) + tk) ≠ al)) rfl rfl (decide_eq_decide.2 (by omega))) rfl ?_
                  refine wpL_nil ?_
                  refine thenS_n ?_
                  refine wpS_cond_F (t := decide ((((us.length + (cntT 0 (tkB (((((u64of (sl.getD i default)) % 60) % 2) : Nat) : Int) bs))) + (cntT 1 (tkB (((((u64of (sl.getD i default)) % 60) % 2) : Nat) : Int) bs))) + tk) ≠ al)) rfl (decide_eq_false (fun h => h (winv_sum (us := us) (bs := (tkB (((((u64of (sl.getD i default)) % 60) % 2) : Nat) : Int) bs)) (i := i + 1) (by first | exact winv_send hI (by omega) (by simp) | exact winv_del hI | exact winv_dbl1 hI (by assumption) | exact winv_dbl0 hI (by assumption) | exact winv_drp1 hI (by assumption) | exact winv_drp0 hI (by assumption) | exact winv_tk1 hI (by assumption) | exact winv_tk0 hI (by assumption))))) ?_
                  refine wpS_skip ?_
                  refine blockS_n ?_
                  refine thenS_n ?_
                  refine wpS_region ?_
                  refine s_y (v := .int .i64 (((i : Nat) : Int))) (y_move h6_2) rfl ?_
                  refine s_y (v := .int .i64 ((((i + 1) : Nat) : Int))) (y_add (a := ((i : Nat) : Int)) (b := 1) (c := (((i + 1) : Nat) : Int)) rfl rfl (wI (by omega) (by omega) (by omega))) rfl ?_
                  refine s_y (v := .int .i64 ((((i + 1) : Nat) : Int))) (y_assign rfl) rfl ?_
                  refine wpL_nil ?_
                  refine thenS_n ?_
                  exact ⟨_, by omega, ⟨(i + 1), us, (tkB (((((u64of (sl.getD i default)) % 60) % 2) : Nat) : Int) bs), ua_54, uc_55, ba_56, bc_57, al, tk, rfl, by omega, (by first | exact winv_send hI (by omega) (by simp) | exact winv_del hI | exact winv_dbl1 hI (by assumption) | exact winv_dbl0 hI (by assumption) | exact winv_drp1 hI (by assumption) | exact winv_drp0 hI (by assumption) | exact winv_tk1 hI (by assumption) | exact winv_tk0 hI (by assumption)), rfl, h0_2, h3_2, h4_2, h5_2, rfl, .p (.t (.t (.t .h))) (.p (.t (.t .h)) (.p (.t .h) (.p .h .nil)))⟩⟩
    · -- decide ((i : Nat) < 100) false
      have p4 := of_decide_eq_false b4
      refine wpS_exit ?_
      refine thenS_x ?_
      refine thenS_x ?_
      refine blockS_h ?_
      refine thenS_n ?_
      refine wpS_seq ?_
      refine wpS_region ?_
      refine s_y (v := .bool true) (y_assign rfl) rfl ?_
      refine wpL_nil ?_
      refine thenS_n ?_
      refine wpS_ret ?_
      refine fin1 (v := .bool true) (.inr rfl) (.nil) Try.results32 rfl ?_
      exact fun w' hs => ⟨rfl, hs⟩
  · -- decide (i < na) False
    have p3 := of_decide_eq_false b3
    refine s_no rfl rfl rfl rfl (b' := decide (i < na)) rfl b3 ?_
    refine s_no rfl rfl rfl rfl (b' := decide (i < na)) rfl b3 ?_
    refine s_y (v := .bool false) (y_pickF (b := decide (i < na)) (v := .bool false) rfl b3 rfl) rfl ?_
    refine wpL_nil ?_
    refine thenS_n ?_
    refine wpS_cond_f rfl ?_
    refine wpS_exit ?_
    refine thenS_x ?_
    refine thenS_x ?_
    refine blockS_h ?_
    refine thenS_n ?_
    refine wpS_seq ?_
    refine wpS_region ?_
    refine s_y (v := .bool true) (y_assign rfl) rfl ?_
    refine wpL_nil ?_
    refine thenS_n ?_
    refine wpS_ret ?_
    refine fin1 (v := .bool true) (.inr rfl) (.nil) Try.results32 rfl ?_
    exact fun w' hs => ⟨rfl, hs⟩

end Go.Proofs.Ytldkjjnjdjfipaa
