/- WireOrder, walked. -/
import Derived.Test.YtldkjjnjdjfipaaWWir5
import Derived.Test.YtldkjjnjdjfipaaP19e
import Derived.Test.YtldkjjnjdjfipaaP11c
namespace Go.Proofs.Ytldkjjnjdjfipaa
open Go Go.RowKit
set_option linter.unusedVariables false
set_option linter.unusedSimpArgs false
set_option maxRecDepth 10000
set_option maxHeartbeats 1000000

theorem u8_lit {y : Nat} (h : y < 200) : IntKind.u8.wrap ((y : Nat) : Int) = (((UInt8.ofNat y).toNat : Nat) : Int) := by
  rw [wu8 (by omega), UInt8.toNat_ofNat_of_lt' (by simp [UInt8.size]; omega)]

theorem order19_law (a : Option Addr) (na ca : Nat) (sl : List Int) (tw : Bool) (w : World) (hna : sl.length = na) (hra : Rds w a (sl.flatMap intV)) : Pure Try.prog 31 #[.slice a na ca, .bool tw] w (.bool true) := by
  refine calls_S (n := 127) (σ0 := (upd (upd fr0 0 (.slice a na ca)) 1 (.bool tw))) (D := []) (A := []) Try.func31 rfl Try.ntmps31 rfl (a2_fr _ _) (SH.start w) ?_
  refine wpS_seq ?_
  refine wpS_region ?_
  refine s_y (v := .bool false) (y_assign rfl) rfl ?_
  refine wpL_nil ?_
  refine thenS_n ?_
  refine wpS_seq ?_
  refine wpS_region ?_
  refine s_e rfl ?_
  refine e_call (f := 102) (args := #[]) (X := Nat) (A := []) (M := []) (V := fun b => .pointer (some ⟨b, 0, none⟩)) (A' := fun b => [cel b 215 [.slice none 0 0, .slice none 0 0]]) (C := fun _ => True) Try.call102 ev0 (.nil) (fun w hs => new_c w) ?_
  rintro wb_1 -
  refine s_y (v := .pointer (some ⟨wb_1, 0, none⟩)) (y_assign rfl) rfl ?_
  refine wpL_nil ?_
  refine thenS_n ?_
  refine wpS_seq ?_
  refine wpS_seq ?_
  refine wpS_region ?_
  refine s_y (v := .bool true) (y_call (args := #[]) (v := .bool true) Try.call103 ev0 (fun w hs => awake19_c w)) rfl ?_
  refine s_y (v := .bool false) (y_notK (b := true) (c := false) rfl rfl) rfl ?_
  refine s_y (v := .bool false) (y_move rfl) rfl ?_
  refine s_gy (y_move rfl) rfl rfl rfl rfl rfl rfl ?_
  refine s_gy (y_ptrEq rfl rfl Try.underlying125 (by kernel_rfl) rfl) rfl rfl rfl rfl rfl rfl ?_
  refine s_y (v := .bool false) (y_pickF (v := .bool false) rfl rfl rfl) rfl ?_
  refine s_y (v := .bool false) (y_move rfl) rfl ?_
  refine s_gy (y_move rfl) rfl rfl rfl rfl rfl rfl ?_
  refine s_gy (y_len (ty' := 0) (at_ := #[]) rfl Try.underlying39) rfl rfl rfl rfl rfl rfl ?_
  refine s_gy (y_gtr (a := ((na : Nat) : Int)) (b := 60) (c := decide ((60 : Nat) < na)) rfl rfl (decide_eq_decide.2 (by omega))) rfl rfl rfl rfl rfl rfl ?_
  refine s_y (v := .bool (decide ((60 : Nat) < na))) (y_pickF (v := .bool (decide ((60 : Nat) < na))) rfl rfl rfl) rfl ?_
  refine wpL_nil ?_
  refine thenS_n ?_
  refine wpS_cond (t := decide ((60 : Nat) < na)) rfl (fun b2 => ?_) (fun b2 => ?_)
  · -- decide ((60 : Nat) < na) true
    have p2 := of_decide_eq_true b2
    refine wpS_seq ?_
    refine wpS_region ?_
    refine s_y (v := .bool true) (y_call (args := #[]) (v := .bool true) Try.call103 ev0 (fun w hs => awake19_c w)) rfl ?_
    refine s_y (v := .bool true) (y_assign rfl) rfl ?_
    refine wpL_nil ?_
    refine thenS_n ?_
    refine wpS_ret ?_
    refine thenS_r ?_
    refine fin1 (v := .bool true) (.inr rfl) (.nil) Try.results31 rfl ?_
    exact fun w' hs => ⟨rfl, hs⟩
  · -- decide ((60 : Nat) < na) false
    have p2 := of_decide_eq_false b2
    refine wpS_skip ?_
    refine thenS_n ?_
    refine wpS_seq ?_
    refine wpS_seq ?_
    refine wpS_region ?_
    refine s_y (v := .int .i64 0) (y_assign rfl) rfl ?_
    refine wpL_nil ?_
    refine thenS_n ?_
    refine wpS_block ?_
    refine wpS_sh (fun w hs => famb_nil w (SH.nil0 (sz := 2) (t := 218) w (SH.nil0 (sz := 2) (t := 218) w hs))) ?_
    refine wpS_loop (fun mez ds σ L => ∃ j : Nat, ∃ us : List Let, ∃ bs : List Let, ∃ ua : Option Addr, ∃ uc : Nat, ∃ ba : Option Addr, ∃ bc : Nat, mez = na - j ∧ (j ≤ na) ∧ (us.map kd = sentO sl j) ∧ (LOK us) ∧ (us.length = j) ∧ (bs.length = 0) ∧ ds = [] ∧ σ 0 = .slice a na ca ∧ σ 1 = .bool tw ∧ σ 5 = .pointer (some ⟨wb_1, 0, none⟩) ∧ σ 6 = .int .i64 (((j : Nat) : Int)) ∧ Ent L [famb (us ++ bs), osl ba bc bs.length 2 218 (bs.flatMap letV), osl ua uc us.length 2 218 (us.flatMap letV), cel wb_1 215 [.slice ua us.length uc, .slice ba bs.length bc]]) (m0 := na - 0) ⟨0, [], [], none, 0, none, 0, rfl, by omega, rfl, lok_nil, rfl, rfl, rfl, rfl, rfl, rfl, rfl, .p .h (.p .h (.p .h (.p .h .nil)))⟩ ?_
    rintro mez ds σ L ⟨j, us, bs, ua, uc, ba, bc, hm_3, hf0_3, hf1_3, hf2_3, hf3_3, hf4_3, rfl, h0_3, h1_3, h5_3, h6_3, hE_3⟩
    refine wpS_ent hE_3 ?_; clear hE_3
    refine wpS_seq ?_
    refine wpS_seq ?_
    refine wpS_region ?_
    refine s_y (v := .int .i64 (((j : Nat) : Int))) (y_move h6_3) rfl ?_
    refine s_y (v := .slice a na ca) (y_move h0_3) rfl ?_
    refine s_y (v := .int .i64 (((na : Nat) : Int))) (y_len (ty' := 0) (at_ := #[]) rfl Try.underlying39) rfl ?_
    refine s_y (v := .bool (decide (j < na))) (y_lss (a := ((j : Nat) : Int)) (b := ((na : Nat) : Int)) (c := decide (j < na)) rfl rfl (decide_eq_decide.2 (by omega))) rfl ?_
    refine wpL_nil ?_
    refine thenS_n ?_
    refine wpS_cond (t := decide (j < na)) rfl (fun b4 => ?_) (fun b4 => ?_)
    · -- decide (j < na) true
      have p4 := of_decide_eq_true b4
      refine wpS_skip ?_
      refine thenS_n ?_
      refine wpS_seq ?_
      refine wpS_block ?_
      refine wpS_region ?_
      refine s_y (v := .pointer (some ⟨wb_1, 0, none⟩)) (y_move h5_3) rfl ?_
      refine s_y (v := .slice a na ca) (y_move h0_3) rfl ?_
      refine s_y (v := .int .i64 (((j : Nat) : Int))) (y_move h6_3) rfl ?_
      refine s_y (v := .pointer (some ⟨aB a, aO a + j * 1, none⟩)) (y_idx (o := j * 1) rfl rfl Try.underlying39 Try.sizeOf3 (oldR hra) ((fl_len intV_len _).trans (by first | omega | (simp only [List.length_set, List.length_take, List.length_drop]; done) | (simp only [List.length_set, List.length_take, List.length_drop]; omega))) (by decide) (by omega) (by omega) (by omega)) rfl ?_
      refine s_y (v := .int .i64 ((sl.getD j default))) (y_load1 (v := .int .i64 ((sl.getD j default))) rfl Try.isAgg3 (rd1 (k := j * 1) (oldR hra) (fl_get0 intV_len sl j (by first | omega | (simp only [List.length_set, List.length_take, List.length_drop]; done) | (simp only [List.length_set, List.length_take, List.length_drop]; omega)) rfl))) rfl ?_
      refine s_y (v := .int .u64 ((((u64of (sl.getD j default)) : Nat) : Int))) (y_convI (a := (sl.getD j default)) (c := (((u64of (sl.getD j default)) : Nat) : Int)) rfl Try.underlying3 Try.underlying46 (u64of_wrap _)) rfl ?_
      refine s_y (v := .int .u64 (((((u64of (sl.getD j default)) % 3) : Nat) : Int))) (y_rem (a := (((u64of (sl.getD j default)) : Nat) : Int)) (b := 3) (c := ((((u64of (sl.getD j default)) % 3) : Nat) : Int)) rfl rfl (by omega) (n_rem _ 3 (by omega))) rfl ?_
      refine s_y (v := .int .i64 (((((u64of (sl.getD j default)) % 3) : Nat) : Int))) (y_convI (a := ((((u64of (sl.getD j default)) % 3) : Nat) : Int)) (c := ((((u64of (sl.getD j default)) % 3) : Nat) : Int)) rfl Try.underlying46 Try.underlying3 (wI rfl (by omega) (by omega))) rfl ?_
      refine s_y (v := .int .i64 (((j : Nat) : Int))) (y_move h6_3) rfl ?_
      refine s_y (v := .int .u8 (((UInt8.ofNat j).toNat : Int))) (y_convI (a := ((j : Nat) : Int)) (c := ((UInt8.ofNat j).toNat : Int)) rfl Try.underlying3 Try.underlying5 (u8_lit (by omega))) rfl ?_
      refine s_e rfl ?_
      refine e_bsliceL (e := 5) (m := [(0, .int .u8 (((UInt8.ofNat j).toNat : Int)))]) (l := [.int .u8 (((UInt8.ofNat j).toNat : Int))]) (evc rfl evn) (fun w => by kernel_rfl) ?_
      intro b_5
      refine s_e rfl ?_
      refine e_call (f := 104) (args := #[.pointer (some ⟨wb_1, 0, none⟩), .int .i64 (((((u64of (sl.getD j default)) % 3) : Nat) : Int)), .slice (some ⟨b_5, 0, none⟩) 1 1]) (X := ((Option Addr × Nat) × (Option Addr × Nat)) × (Option Addr × Nat)) (A := [cel wb_1 215 [.slice ua us.length uc, .slice ba bs.length bc], osl ua uc us.length 2 218 (us.flatMap letV), osl ba bc bs.length 2 218 (bs.flatMap letV), famb (us ++ bs)]) (M := [cel b_5 5 [.int .u8 (((UInt8.ofNat j).toNat : Int))]]) (V := fun _ => .tuple #[]) (A' := fun x => [cel wb_1 215 [.slice x.1.1.1 ((us ++ [(Let.mk ((((u64of (sl.getD j default)) % 3) : Nat) : Int) x.2.1 ([(UInt8.ofNat j)]).length x.2.2 ([(UInt8.ofNat j)]))]).length) x.1.1.2, .slice x.1.2.1 bs.length x.1.2.2], osl x.1.1.1 x.1.1.2 ((us ++ [(Let.mk ((((u64of (sl.getD j default)) % 3) : Nat) : Int) x.2.1 ([(UInt8.ofNat j)]).length x.2.2 ([(UInt8.ofNat j)]))]).length) 2 218 ((us ++ [(Let.mk ((((u64of (sl.getD j default)) % 3) : Nat) : Int) x.2.1 ([(UInt8.ofNat j)]).length x.2.2 ([(UInt8.ofNat j)]))]).flatMap letV), osl x.1.2.1 x.1.2.2 bs.length 2 218 (bs.flatMap letV), famb ((us ++ [(Let.mk ((((u64of (sl.getD j default)) % 3) : Nat) : Int) x.2.1 ([(UInt8.ofNat j)]).length x.2.2 ([(UInt8.ofNat j)]))]) ++ bs)]) (C := fun _ => True) Try.call104 (ev3 rfl rfl rfl) (.p (.t (.t (.t (.t .h)))) (.p (.t (.t (.t .h))) (.p (.t (.t .h)) (.p (.t .h) (.p .h .nil))))) (fun w hs => (send_c wb_1 ua uc ba bc us bs ((((u64of (sl.getD j default)) % 3) : Nat) : Int) (some ⟨b_5, 0, none⟩) 1 1 ([(UInt8.ofNat j)]) w (by first | omega | (simp; done)) rfl (celR (.t (.t (.t (.t .h)))) w hs) (by omega) (fun hl => (show _ ∧ _ from apM (A := [cel wb_1 215 [.slice ua us.length uc, .slice ba bs.length bc], osl ua uc us.length 2 218 (us.flatMap letV), osl ba bc bs.length 2 218 (bs.flatMap letV), famb (us ++ bs)]) hs .h (by simp [cel, blk, aB])).2) (SH.lendW hs)).mono (fun e w2 hx => hx.elim (fun x hx => ⟨x, hx.1, hx.2, trivial⟩))) ?_
      rintro ⟨⟨⟨ua_6, uc_7⟩, ⟨ba_8, bc_9⟩⟩, ⟨la_10, lc_11⟩⟩ -
      have hle12 : (us ++ [(Let.mk ((((u64of (sl.getD j default)) % 3) : Nat) : Int) la_10 ([(UInt8.ofNat j)]).length lc_11 ([(UInt8.ofNat j)]))]).length = us.length + 1 := by simp
      refine wpL_nil ?_
      refine blockS_n ?_
      refine thenS_n ?_
      refine wpS_region ?_
      refine s_y (v := .int .i64 (((j : Nat) : Int))) (y_move h6_3) rfl ?_
      refine s_y (v := .int .i64 ((((j + 1) : Nat) : Int))) (y_add (a := ((j : Nat) : Int)) (b := 1) (c := (((j + 1) : Nat) : Int)) rfl rfl (wI (by omega) (by omega) (by omega))) rfl ?_
      refine s_y (v := .int .i64 ((((j + 1) : Nat) : Int))) (y_assign rfl) rfl ?_
      refine wpL_nil ?_
      refine thenS_n ?_
      exact ⟨_, by omega, ⟨(j + 1), (us ++ [(Let.mk ((((u64of (sl.getD j default)) % 3) : Nat) : Int) la_10 ([(UInt8.ofNat j)]).length lc_11 ([(UInt8.ofNat j)]))]), bs, ua_6, uc_7, ba_8, bc_9, rfl, by omega, (sent_app (by assumption)), (lok_app (by assumption) (by simp)), by omega, by assumption, rfl, h0_3, h1_3, h5_3, rfl, .p (.t (.t (.t .h))) (.p (.t (.t .h)) (.p (.t .h) (.p .h .nil)))⟩⟩
    · -- decide (j < na) false
      have p4 := of_decide_eq_false b4
      refine wpS_exit ?_
      refine thenS_x ?_
      refine thenS_x ?_
      refine blockS_h ?_
      refine thenS_n ?_
      refine wpS_seq ?_
      refine wpS_region ?_
      refine s_y (v := .slice a na ca) (y_move h0_3) rfl ?_
      refine s_y (v := .int .i64 (((na : Nat) : Int))) (y_len (ty' := 0) (at_ := #[]) rfl Try.underlying39) rfl ?_
      refine s_y (v := .int .i64 (((na : Nat) : Int))) (y_assign rfl) rfl ?_
      refine wpL_nil ?_
      refine thenS_n ?_
      refine wpS_cut (fun ds σ L => ∃ us : List Let, ∃ bs : List Let, ∃ ua : Option Addr, ∃ uc : Nat, ∃ ba : Option Addr, ∃ bc : Nat, (us.map kd = sentO sl na) ∧ (LOK us) ∧ (us.length = na) ∧ (bs.length = 0) ∧ ds = [] ∧ σ 0 = .slice a na ca ∧ σ 5 = .pointer (some ⟨wb_1, 0, none⟩) ∧ Ent L [famb (us ++ bs), osl ba bc bs.length 2 218 (bs.flatMap letV), osl ua uc us.length 2 218 (us.flatMap letV), cel wb_1 215 [.slice ua us.length uc, .slice ba bs.length bc]]) ?_ ?_
      · -- up to the cut
        refine wpS_seq ?_
        refine wpS_region ?_
        refine s_y (v := .bool tw) (y_move h1_3) rfl ?_
        refine s_y (v := .bool tw) (y_move rfl) rfl ?_
        rcases Bool.eq_false_or_eq_true (tw) with b13 | b13
        · -- tw True
          refine s_gy (y_move rfl) rfl rfl rfl rfl (b' := tw) rfl b13 ?_
          refine s_gy (y_gtr (a := ((na : Nat) : Int)) (b := 0) (c := decide ((0 : Nat) < na)) rfl rfl (decide_eq_decide.2 (by omega))) rfl rfl rfl rfl (b' := tw) rfl b13 ?_
          refine s_y (v := .bool (decide ((0 : Nat) < na))) (y_pickT (b := tw) (v := .bool (decide ((0 : Nat) < na))) rfl b13 rfl) rfl ?_
          refine wpL_nil ?_
          refine thenS_n ?_
          refine wpS_cond (t := decide ((0 : Nat) < na)) rfl (fun b14 => ?_) (fun b14 => ?_)
          · -- decide ((0 : Nat) < na) true
            have p14 := of_decide_eq_true b14
            refine wpS_seq ?_
            refine wpS_region ?_
            refine s_y (v := .pointer (some ⟨wb_1, 0, none⟩)) (y_move h5_3) rfl ?_
            refine s_e rfl ?_
            refine e_call (f := 105) (args := #[.pointer (some ⟨wb_1, 0, none⟩), .int .i64 0]) (X := (Option Addr × Nat) × (Option Addr × Nat)) (A := [cel wb_1 215 [.slice ua us.length uc, .slice ba bs.length bc], osl ua uc us.length 2 218 (us.flatMap letV), osl ba bc bs.length 2 218 (bs.flatMap letV), famb (us ++ bs)]) (M := []) (V := fun _ => .bool (decide (0 < us.length))) (A' := fun x => [cel wb_1 215 [.slice x.1.1 ((dbU us 0).length) x.1.2, .slice x.2.1 bs.length x.2.2], osl x.1.1 x.1.2 ((dbU us 0).length) 2 218 ((dbU us 0).flatMap letV), osl x.2.1 x.2.2 bs.length 2 218 (bs.flatMap letV), famb ((dbU us 0) ++ bs)]) (C := fun _ => True) Try.call105 (ev2 rfl rfl) (.p (.t (.t (.t .h))) (.p (.t (.t .h)) (.p (.t .h) (.p .h .nil)))) (fun w hs => (double_c wb_1 ua uc ba bc us bs 0 w (by omega) (by omega) (SH.lendW hs)).mono (fun e w2 hx => hx.elim (fun x hx => ⟨x, hx.1, hx.2, trivial⟩))) ?_
            rintro ⟨⟨ua_15, uc_16⟩, ⟨ba_17, bc_18⟩⟩ -
            have hle19 := dbU_len (us := us) (by omega)
            refine s_y (v := .bool (!(decide (0 < us.length)))) (y_not (b := decide (0 < us.length)) rfl) rfl ?_
            refine s_y (v := .bool (!(decide (0 < us.length)))) (y_move rfl) rfl ?_
            refine s_gy (y_move h5_3) rfl rfl rfl rfl (b' := !(decide (0 < us.length))) rfl (congrArg not (decide_eq_true (by omega))) ?_
            refine s_gy (y_call (args := #[.pointer (some ⟨wb_1, 0, none⟩)]) (v := .int .i64 ((((dbU us 0).length : Nat) : Int))) Try.call106 (ev1 rfl) (fun w hs => under_c wb_1 ua_15 ((dbU us 0).length) uc_16 w (own1 .h rfl w hs))) rfl rfl rfl rfl (b' := !(decide (0 < us.length))) rfl (congrArg not (decide_eq_true (by omega))) ?_
            refine s_gy (y_move rfl) rfl rfl rfl rfl (b' := !(decide (0 < us.length))) rfl (congrArg not (decide_eq_true (by omega))) ?_
            refine s_gy (y_add (a := ((na : Nat) : Int)) (b := 1) (c := (((na + 1) : Nat) : Int)) rfl rfl (wI (by omega) (by omega) (by omega))) rfl rfl rfl rfl (b' := !(decide (0 < us.length))) rfl (congrArg not (decide_eq_true (by omega))) ?_
            refine s_gy (y_neq (a := (((dbU us 0).length : Nat) : Int)) (b := (((na + 1) : Nat) : Int)) (c := decide (((dbU us 0).length) ≠ (na + 1))) rfl rfl (decide_eq_decide.2 (by omega))) rfl rfl rfl rfl (b' := !(decide (0 < us.length))) rfl (congrArg not (decide_eq_true (by omega))) ?_
            refine s_y (v := .bool (decide (((dbU us 0).length) ≠ (na + 1)))) (y_pickF (b := !(decide (0 < us.length))) (v := .bool (decide (((dbU us 0).length) ≠ (na + 1)))) rfl (congrArg not (decide_eq_true (by omega))) rfl) rfl ?_
            refine s_y (v := .bool (decide (((dbU us 0).length) ≠ (na + 1)))) (y_move rfl) rfl ?_
            refine s_gy (y_move h5_3) rfl rfl rfl rfl (b' := decide (((dbU us 0).length) ≠ (na + 1))) rfl (decide_eq_false (by omega)) ?_
            refine s_gy (y_move rfl) rfl rfl rfl rfl (b' := decide (((dbU us 0).length) ≠ (na + 1))) rfl (decide_eq_false (by omega)) ?_
            refine s_ge rfl rfl rfl rfl (b' := decide (((dbU us 0).length) ≠ (na + 1))) rfl (decide_eq_false (by omega)) ?_
            refine e_call (f := 107) (args := #[.pointer (some ⟨wb_1, 0, none⟩), .int .i64 (((na : Nat) : Int))]) (X := (Option Addr × Nat) × (Option Addr × Nat)) (A := [cel wb_1 215 [.slice ua_15 ((dbU us 0).length) uc_16, .slice ba_17 bs.length bc_18], osl ua_15 uc_16 ((dbU us 0).length) 2 218 ((dbU us 0).flatMap letV), osl ba_17 bc_18 bs.length 2 218 (bs.flatMap letV), famb ((dbU us 0) ++ bs)]) (M := []) (V := fun _ => .bool (decide (0 < (dbU us 0).length))) (A' := fun x => [cel wb_1 215 [.slice x.1.1 ((dlU (dbU us 0) ((na : Nat) : Int)).length) x.1.2, .slice x.2.1 bs.length x.2.2], osl x.1.1 x.1.2 ((dlU (dbU us 0) ((na : Nat) : Int)).length) 2 218 ((dlU (dbU us 0) ((na : Nat) : Int)).flatMap letV), osl x.2.1 x.2.2 bs.length 2 218 (bs.flatMap letV), famb ((dlU (dbU us 0) ((na : Nat) : Int)) ++ bs)]) (C := fun _ => True) Try.call107 (ev2 rfl rfl) (.p .h (.p .h (.p .h (.p .h .nil)))) (fun w hs => (drop_c wb_1 ua_15 uc_16 ba_17 bc_18 (dbU us 0) bs ((na : Nat) : Int) w (by omega) (by omega) (SH.lendW hs)).mono (fun e w2 hx => hx.elim (fun x hx => ⟨x, hx.1, hx.2, trivial⟩))) ?_
            rintro ⟨⟨ua_20, uc_21⟩, ⟨ba_22, bc_23⟩⟩ -
            have hle24 := dlU_le (dbU us 0) ((na : Nat) : Int)
            refine s_gy (y_not (b := decide (0 < (dbU us 0).length)) rfl) rfl rfl rfl rfl (b' := decide (((dbU us 0).length) ≠ (na + 1))) rfl (decide_eq_false (by omega)) ?_
            refine s_y (v := .bool (!(decide (0 < (dbU us 0).length)))) (y_pickF (b := decide (((dbU us 0).length) ≠ (na + 1))) (v := .bool (!(decide (0 < (dbU us 0).length)))) rfl (decide_eq_false (by omega)) rfl) rfl ?_
            refine wpL_nil ?_
            refine thenS_n ?_
            refine wpS_cond_F (t := !(decide (0 < (dbU us 0).length))) rfl (congrArg not (decide_eq_true (by omega))) ?_
            refine wpS_skip ?_
            refine thenS_n ?_
            have hin : j = na := by omega
            have hms : us.map kd = sentO sl na := by rw [← hin]; assumption
            have hlz : us.length = na := by omega
            exact ⟨(dlU (dbU us 0) ((na : Nat) : Int)), bs, ua_20, uc_21, ba_22, bc_23, (by first | assumption | (rw [dbl_drp (z := na) (by assumption) (by omega)]; assumption)), (by first | assumption | (rw [dbl_drp (z := na) (by assumption) (by omega)]; assumption)), (by first | assumption | (rw [dbl_drp (z := na) (by assumption) (by omega)]; assumption)), by assumption, rfl, h0_3, h5_3, .p (.t (.t (.t .h))) (.p (.t (.t .h)) (.p (.t .h) (.p .h .nil)))⟩
          · -- decide ((0 : Nat) < na) false
            have p14 := of_decide_eq_false b14
            refine wpS_skip ?_
            refine thenS_n ?_
            have hin : j = na := by omega
            have hms : us.map kd = sentO sl na := by rw [← hin]; assumption
            have hlz : us.length = na := by omega
            exact ⟨us, bs, ua, uc, ba, bc, (by first | assumption | (rw [dbl_drp (z := na) (by assumption) (by omega)]; assumption)), (by first | assumption | (rw [dbl_drp (z := na) (by assumption) (by omega)]; assumption)), (by first | assumption | (rw [dbl_drp (z := na) (by assumption) (by omega)]; assumption)), by assumption, rfl, h0_3, h5_3, .p .h (.p .h (.p .h (.p .h .nil)))⟩
        · -- tw False
          refine s_no rfl rfl rfl rfl (b' := tw) rfl b13 ?_
          refine s_no rfl rfl rfl rfl (b' := tw) rfl b13 ?_
          refine s_y (v := .bool false) (y_pickF (b := tw) (v := .bool false) rfl b13 rfl) rfl ?_
          refine wpL_nil ?_
          refine thenS_n ?_
          refine wpS_cond_f rfl ?_
          refine wpS_skip ?_
          refine thenS_n ?_
          have hin : j = na := by omega
          have hms : us.map kd = sentO sl na := by rw [← hin]; assumption
          have hlz : us.length = na := by omega
          exact ⟨us, bs, ua, uc, ba, bc, (by first | assumption | (rw [dbl_drp (z := na) (by assumption) (by omega)]; assumption)), (by first | assumption | (rw [dbl_drp (z := na) (by assumption) (by omega)]; assumption)), (by first | assumption | (rw [dbl_drp (z := na) (by assumption) (by omega)]; assumption)), by assumption, rfl, h0_3, h5_3, .p .h (.p .h (.p .h (.p .h .nil)))⟩
      rintro ds σ L ⟨us, bs, ua, uc, ba, bc, hf0_25, hf1_25, hf2_25, hf3_25, rfl, h0_25, h5_25, hE_25⟩
      refine wpS_ent hE_25 ?_; clear hE_25
      refine wpS_seq ?_
      refine wpS_block ?_
      refine wpS_loop (fun mez ds σ L => ∃ vs : List Let, ∃ bs : List Let, ∃ ua : Option Addr, ∃ uc : Nat, ∃ ba : Option Addr, ∃ bc : Nat, mez = vs.length ∧ ((bs ++ vs).map kd = sentO sl na) ∧ (LOK (vs ++ bs)) ∧ (vs.length + bs.length = na) ∧ ds = [] ∧ σ 0 = .slice a na ca ∧ σ 5 = .pointer (some ⟨wb_1, 0, none⟩) ∧ Ent L [famb (vs ++ bs), osl ba bc bs.length 2 218 (bs.flatMap letV), osl ua uc vs.length 2 218 (vs.flatMap letV), cel wb_1 215 [.slice ua vs.length uc, .slice ba bs.length bc]]) (m0 := us.length) ⟨us, bs, ua, uc, ba, bc, rfl, (by rw [List.length_eq_zero_iff.1 (show bs.length = 0 by assumption), List.nil_append]; assumption), (by rw [List.length_eq_zero_iff.1 (show bs.length = 0 by assumption), List.append_nil]; assumption), by omega, rfl, h0_25, h5_25, .p .h (.p .h (.p .h (.p .h .nil)))⟩ ?_
      rintro mez ds σ L ⟨vs, bs, ua, uc, ba, bc, hm_26, hf0_26, hf1_26, hf2_26, rfl, h0_26, h5_26, hE_26⟩
      refine wpS_ent hE_26 ?_; clear hE_26
      refine wpS_seq ?_
      refine wpS_seq ?_
      refine wpS_region ?_
      refine s_y (v := .pointer (some ⟨wb_1, 0, none⟩)) (y_move h5_26) rfl ?_
      refine s_y (v := .int .i64 (((vs.length : Nat) : Int))) (y_call (args := #[.pointer (some ⟨wb_1, 0, none⟩)]) (v := .int .i64 (((vs.length : Nat) : Int))) Try.call106 (ev1 rfl) (fun w hs => under_c wb_1 ua vs.length uc w (own1 (.t (.t (.t .h))) rfl w hs))) rfl ?_
      refine s_y (v := .bool (decide ((0 : Nat) < vs.length))) (y_gtr (a := ((vs.length : Nat) : Int)) (b := 0) (c := decide ((0 : Nat) < vs.length)) rfl rfl (decide_eq_decide.2 (by omega))) rfl ?_
      refine wpL_nil ?_
      refine thenS_n ?_
      refine wpS_cond (t := decide ((0 : Nat) < vs.length)) rfl (fun b27 => ?_) (fun b27 => ?_)
      · -- decide ((0 : Nat) < vs.length) true
        have p27 := of_decide_eq_true b27
        refine wpS_skip ?_
        refine thenS_n ?_
        refine wpS_block ?_
        refine wpS_seq ?_
        refine wpS_region ?_
        refine s_y (v := .pointer (some ⟨wb_1, 0, none⟩)) (y_move h5_26) rfl ?_
        refine s_e rfl ?_
        refine e_call (f := 108) (args := #[.pointer (some ⟨wb_1, 0, none⟩), .int .i64 0]) (X := (Option Addr × Nat) × (Option Addr × Nat)) (A := [cel wb_1 215 [.slice ua vs.length uc, .slice ba bs.length bc], osl ua uc vs.length 2 218 (vs.flatMap letV), osl ba bc bs.length 2 218 (bs.flatMap letV), famb (vs ++ bs)]) (M := []) (V := fun _ => .bool (decide (0 < vs.length))) (A' := fun x => [cel wb_1 215 [.slice x.1.1 ((dlU vs 0).length) x.1.2, .slice x.2.1 ((dlB vs bs 0).length) x.2.2], osl x.1.1 x.1.2 ((dlU vs 0).length) 2 218 ((dlU vs 0).flatMap letV), osl x.2.1 x.2.2 ((dlB vs bs 0).length) 2 218 ((dlB vs bs 0).flatMap letV), famb ((dlU vs 0) ++ (dlB vs bs 0))]) (C := fun _ => True) Try.call108 (ev2 rfl rfl) (.p (.t (.t (.t .h))) (.p (.t (.t .h)) (.p (.t .h) (.p .h .nil)))) (fun w hs => (deliver_c wb_1 ua uc ba bc vs bs 0 w (by omega) (by omega) (SH.lendW hs)).mono (fun e w2 hx => hx.elim (fun x hx => ⟨x, hx.1, hx.2, trivial⟩))) ?_
        rintro ⟨⟨ua_28, uc_29⟩, ⟨ba_30, bc_31⟩⟩ -
        have hle32 := dlU_len1 (us := vs) (i := 0) (by omega)
        have hle33 := dlB_len1 (us := vs) (bs := bs) (i := 0) (by omega)
        refine s_y (v := .bool (!(decide (0 < vs.length)))) (y_not (b := decide (0 < vs.length)) rfl) rfl ?_
        refine wpL_nil ?_
        refine thenS_n ?_
        refine wpS_cond_F (t := !(decide (0 < vs.length))) rfl (congrArg not (decide_eq_true (by omega))) ?_
        refine wpS_skip ?_
        refine blockS_n ?_
        refine thenS_n ?_
        exact ⟨_, by omega, ⟨(dlU vs 0), (dlB vs bs 0), ua_28, uc_29, ba_30, bc_31, rfl, (del_first (by omega) (by assumption)), (lok_del (by assumption)), by omega, rfl, h0_26, h5_26, .p (.t (.t (.t .h))) (.p (.t (.t .h)) (.p (.t .h) (.p .h .nil)))⟩⟩
      · -- decide ((0 : Nat) < vs.length) false
        have p27 := of_decide_eq_false b27
        refine wpS_exit ?_
        refine thenS_x ?_
        refine thenS_x ?_
        refine blockS_h ?_
        refine thenS_n ?_
        refine wpS_seq ?_
        refine wpS_seq ?_
        refine wpS_region ?_
        refine s_y (v := .int .i64 0) (y_assign rfl) rfl ?_
        refine wpL_nil ?_
        refine thenS_n ?_
        refine wpS_block ?_
        refine wpS_loop (fun mez ds σ L => ∃ k : Nat, ∃ cs : List Let, ∃ ua : Option Addr, ∃ uc : Nat, ∃ ba : Option Addr, ∃ bc : Nat, mez = 3 - k ∧ (k ≤ 3) ∧ (cs.map kd = remO sl na k 0) ∧ (LOK cs) ∧ (cs.length ≤ 60) ∧ ds = [] ∧ σ 0 = .slice a na ca ∧ σ 5 = .pointer (some ⟨wb_1, 0, none⟩) ∧ σ 8 = .int .i64 (((k : Nat) : Int)) ∧ Ent L [famb (vs ++ cs), osl ba bc cs.length 2 218 (cs.flatMap letV), osl ua uc vs.length 2 218 (vs.flatMap letV), cel wb_1 215 [.slice ua vs.length uc, .slice ba cs.length bc]]) (m0 := 3 - 0) ⟨0, bs, ua, uc, ba, bc, rfl, by omega, (by rw [← rem_0, ← (show (bs ++ vs).map kd = sentO sl na by assumption), List.length_eq_zero_iff.1 (show vs.length = 0 by omega), List.append_nil]), (fun x hx => (show LOK (vs ++ bs) by assumption) x (List.mem_append_right _ hx)), by omega, rfl, h0_26, h5_26, rfl, .p .h (.p .h (.p .h (.p .h .nil)))⟩ ?_
        rintro mez ds σ L ⟨k, cs, ua, uc, ba, bc, hm_34, hf0_34, hf1_34, hf2_34, hf3_34, rfl, h0_34, h5_34, h8_34, hE_34⟩
        refine wpS_ent hE_34 ?_; clear hE_34
        refine wpS_seq ?_
        refine wpS_seq ?_
        refine wpS_region ?_
        refine s_y (v := .int .i64 (((k : Nat) : Int))) (y_move h8_34) rfl ?_
        refine s_y (v := .bool (decide ((k : Nat) < 3))) (y_lss (a := ((k : Nat) : Int)) (b := 3) (c := decide ((k : Nat) < 3)) rfl rfl (decide_eq_decide.2 (by omega))) rfl ?_
        refine wpL_nil ?_
        refine thenS_n ?_
        refine wpS_cond (t := decide ((k : Nat) < 3)) rfl (fun b35 => ?_) (fun b35 => ?_)
        · -- decide ((k : Nat) < 3) true
          have p35 := of_decide_eq_true b35
          refine wpS_skip ?_
          refine thenS_n ?_
          refine wpS_seq ?_
          refine wpS_block ?_
          refine wpS_seq ?_
          refine wpS_seq ?_
          refine wpS_region ?_
          refine s_y (v := .int .i64 0) (y_assign rfl) rfl ?_
          refine wpL_nil ?_
          refine thenS_n ?_
          refine wpS_block ?_
          refine wpS_loop (fun mez ds σ L => ∃ i : Nat, ∃ es : List Let, ∃ ua : Option Addr, ∃ uc : Nat, ∃ ba : Option Addr, ∃ bc : Nat, mez = na - i ∧ (i ≤ na) ∧ (es.map kd = remO sl na k i) ∧ (LOK es) ∧ (es.length ≤ 60) ∧ ds = [] ∧ σ 0 = .slice a na ca ∧ σ 5 = .pointer (some ⟨wb_1, 0, none⟩) ∧ σ 8 = .int .i64 (((k : Nat) : Int)) ∧ σ 9 = .int .i64 (((i : Nat) : Int)) ∧ Ent L [famb (vs ++ es), osl ba bc es.length 2 218 (es.flatMap letV), osl ua uc vs.length 2 218 (vs.flatMap letV), cel wb_1 215 [.slice ua vs.length uc, .slice ba es.length bc]]) (m0 := na - 0) ⟨0, cs, ua, uc, ba, bc, rfl, by omega, by assumption, by assumption, by omega, rfl, h0_34, h5_34, h8_34, rfl, .p .h (.p .h (.p .h (.p .h .nil)))⟩ ?_
          rintro mez ds σ L ⟨i, es, ua, uc, ba, bc, hm_36, hf0_36, hf1_36, hf2_36, hf3_36, rfl, h0_36, h5_36, h8_36, h9_36, hE_36⟩
          refine wpS_ent hE_36 ?_; clear hE_36
          refine wpS_seq ?_
          refine wpS_seq ?_
          refine wpS_region ?_
          refine s_y (v := .int .i64 (((i : Nat) : Int))) (y_move h9_36) rfl ?_
          refine s_y (v := .slice a na ca) (y_move h0_36) rfl ?_
          refine s_y (v := .int .i64 (((na : Nat) : Int))) (y_len (ty' := 0) (at_ := #[]) rfl Try.underlying39) rfl ?_
          refine s_y (v := .bool (decide (i < na))) (y_lss (a := ((i : Nat) : Int)) (b := ((na : Nat) : Int)) (c := decide (i < na)) rfl rfl (decide_eq_decide.2 (by omega))) rfl ?_
          refine wpL_nil ?_
          refine thenS_n ?_
          refine wpS_cond (t := decide (i < na)) rfl (fun b37 => ?_) (fun b37 => ?_)
          · -- decide (i < na) true
            have p37 := of_decide_eq_true b37
            refine wpS_skip ?_
            refine thenS_n ?_
            refine wpS_seq ?_
            refine wpS_block ?_
            refine wpS_seq ?_
            refine wpS_seq ?_
            refine wpS_region ?_
            refine s_y (v := .slice a na ca) (y_move h0_36) rfl ?_
            refine s_y (v := .int .i64 (((i : Nat) : Int))) (y_move h9_36) rfl ?_
            refine s_y (v := .pointer (some ⟨aB a, aO a + i * 1, none⟩)) (y_idx (o := i * 1) rfl rfl Try.underlying39 Try.sizeOf3 (oldR hra) ((fl_len intV_len _).trans (by first | omega | (simp only [List.length_set, List.length_take, List.length_drop]; done) | (simp only [List.length_set, List.length_take, List.length_drop]; omega))) (by decide) (by omega) (by omega) (by omega)) rfl ?_
            refine s_y (v := .int .i64 ((sl.getD i default))) (y_load1 (v := .int .i64 ((sl.getD i default))) rfl Try.isAgg3 (rd1 (k := i * 1) (oldR hra) (fl_get0 intV_len sl i (by first | omega | (simp only [List.length_set, List.length_take, List.length_drop]; done) | (simp only [List.length_set, List.length_take, List.length_drop]; omega)) rfl))) rfl ?_
            refine s_y (v := .int .u64 ((((u64of (sl.getD i default)) : Nat) : Int))) (y_convI (a := (sl.getD i default)) (c := (((u64of (sl.getD i default)) : Nat) : Int)) rfl Try.underlying3 Try.underlying46 (u64of_wrap _)) rfl ?_
            refine s_y (v := .int .u64 (((((u64of (sl.getD i default)) % 3) : Nat) : Int))) (y_rem (a := (((u64of (sl.getD i default)) : Nat) : Int)) (b := 3) (c := ((((u64of (sl.getD i default)) % 3) : Nat) : Int)) rfl rfl (by omega) (n_rem _ 3 (by omega))) rfl ?_
            refine s_y (v := .int .i64 (((((u64of (sl.getD i default)) % 3) : Nat) : Int))) (y_convI (a := ((((u64of (sl.getD i default)) % 3) : Nat) : Int)) (c := ((((u64of (sl.getD i default)) % 3) : Nat) : Int)) rfl Try.underlying46 Try.underlying3 (wI rfl (by omega) (by omega))) rfl ?_
            refine s_y (v := .int .i64 (((k : Nat) : Int))) (y_move h8_36) rfl ?_
            refine s_y (v := .bool (decide (((u64of (sl.getD i default)) % 3) ≠ k))) (y_neq (a := ((((u64of (sl.getD i default)) % 3) : Nat) : Int)) (b := ((k : Nat) : Int)) (c := decide (((u64of (sl.getD i default)) % 3) ≠ k)) rfl rfl (decide_eq_decide.2 (by omega))) rfl ?_
            refine wpL_nil ?_
            refine thenS_n ?_
            refine wpS_cond (t := decide (((u64of (sl.getD i default)) % 3) ≠ k)) rfl (fun b38 => ?_) (fun b38 => ?_)
            · -- decide (((u64of (sl.getD i default)) % 3) ≠ k) true
              have p38 := of_decide_eq_true b38
              refine wpS_exit ?_
              refine thenS_x ?_
              refine blockS_h ?_
              refine thenS_n ?_
              refine wpS_region ?_
              refine s_y (v := .int .i64 (((i : Nat) : Int))) (y_move h9_36) rfl ?_
              refine s_y (v := .int .i64 ((((i + 1) : Nat) : Int))) (y_add (a := ((i : Nat) : Int)) (b := 1) (c := (((i + 1) : Nat) : Int)) rfl rfl (wI (by omega) (by omega) (by omega))) rfl ?_
              refine s_y (v := .int .i64 ((((i + 1) : Nat) : Int))) (y_assign rfl) rfl ?_
              refine wpL_nil ?_
              refine thenS_n ?_
              exact ⟨_, by omega, ⟨(i + 1), es, ua, uc, ba, bc, rfl, by omega, (by first | exact ht3 | (rw [← rem_skip (show ¬ tO sl i = k by unfold tO; omega)]; assumption)), (by first | assumption | exact lok_tk (by assumption)), by omega, rfl, h0_36, h5_36, h8_36, rfl, .p .h (.p .h (.p .h (.p .h .nil)))⟩⟩
            · -- decide (((u64of (sl.getD i default)) % 3) ≠ k) false
              have p38 := of_decide_eq_false b38
              refine wpS_skip ?_
              refine thenS_n ?_
              refine wpS_seq ?_
              refine wpS_region ?_
              refine s_y (v := .pointer (some ⟨wb_1, 0, none⟩)) (y_move h5_36) rfl ?_
              refine s_y (v := .int .i64 (((k : Nat) : Int))) (y_move h8_36) rfl ?_
              refine s_e rfl ?_
              refine e_call (f := 109) (args := #[.pointer (some ⟨wb_1, 0, none⟩), .int .i64 (((k : Nat) : Int))]) (X := ((Option Addr × Nat) × (Option Addr × Nat)) × (Option Addr × Nat)) (A := [cel wb_1 215 [.slice ua vs.length uc, .slice ba es.length bc], osl ua uc vs.length 2 218 (vs.flatMap letV), osl ba bc es.length 2 218 (es.flatMap letV), famb (vs ++ es)]) (M := []) (V := fun x => .tuple #[slV (tkD ((k : Nat) : Int) es) x.2, .bool (decide (fdT ((k : Nat) : Int) es < es.length))]) (A' := fun x => [cel wb_1 215 [.slice x.1.1.1 vs.length x.1.1.2, .slice x.1.2.1 ((tkB ((k : Nat) : Int) es).length) x.1.2.2], osl x.1.1.1 x.1.1.2 vs.length 2 218 (vs.flatMap letV), osl x.1.2.1 x.1.2.2 ((tkB ((k : Nat) : Int) es).length) 2 218 ((tkB ((k : Nat) : Int) es).flatMap letV), famb (vs ++ (tkB ((k : Nat) : Int) es)), osl x.2.1 x.2.2 ((tkD ((k : Nat) : Int) es).length) 1 5 ((tkD ((k : Nat) : Int) es).flatMap byteV)]) (C := fun _ => True) Try.call109 (ev2 rfl rfl) (.p (.t (.t (.t .h))) (.p (.t (.t .h)) (.p (.t .h) (.p .h .nil)))) (fun w hs => (take_c wb_1 ua uc ba bc vs es ((k : Nat) : Int) w (by omega) (by omega) (by assumption) (SH.lendW hs)).mono (fun e w2 hx => hx.elim (fun x hx => ⟨x, hx.1, hx.2, trivial⟩))) ?_
              rintro ⟨⟨⟨ua_39, uc_40⟩, ⟨ba_41, bc_42⟩⟩, ⟨la_43, lc_44⟩⟩ -
              have hle46 := tkB_le ((k : Nat) : Int) es
              obtain ⟨ht1, ht2, ht3⟩ := take_ok (sl := sl) (bs := es) (z := na) (k := k) (i := i) (by assumption) (by omega) (show tO sl i = k by unfold tO; omega)
              have ht4 : (tkD ((k : Nat) : Int) es).length = 1 := by rw [ht2]; rfl
              refine s_y (v := .tuple #[.slice la_43 ((tkD ((k : Nat) : Int) es).length) lc_44, .bool (decide (fdT ((k : Nat) : Int) es < es.length))]) (y_move rfl) rfl ?_
              refine s_y (v := .slice la_43 ((tkD ((k : Nat) : Int) es).length) lc_44) (y_extract (v := .slice la_43 ((tkD ((k : Nat) : Int) es).length) lc_44) rfl rfl) rfl ?_
              refine s_y (v := .bool (decide (fdT ((k : Nat) : Int) es < es.length))) (y_extract (v := .bool (decide (fdT ((k : Nat) : Int) es < es.length))) rfl rfl) rfl ?_
              refine s_y (v := .slice la_43 ((tkD ((k : Nat) : Int) es).length) lc_44) (y_assign rfl) rfl ?_
              refine s_y (v := .bool (decide (fdT ((k : Nat) : Int) es < es.length))) (y_assign rfl) rfl ?_
              refine wpL_nil ?_
              refine thenS_n ?_
              refine wpS_seq ?_
              refine wpS_region ?_
              refine s_y (v := .bool (decide (fdT ((k : Nat) : Int) es < es.length))) (y_move rfl) rfl ?_
              refine s_y (v := .bool (!(decide (fdT ((k : Nat) : Int) es < es.length)))) (y_not (b := decide (fdT ((k : Nat) : Int) es < es.length)) rfl) rfl ?_
              refine s_y (v := .bool (!(decide (fdT ((k : Nat) : Int) es < es.length)))) (y_move rfl) rfl ?_
              refine s_gy (y_move rfl) rfl rfl rfl rfl (b' := !(decide (fdT ((k : Nat) : Int) es < es.length))) rfl (congrArg not (decide_eq_true ht1)) ?_
              refine s_gy (y_len (ty' := 0) (at_ := #[]) rfl Try.underlying61) rfl rfl rfl rfl (b' := !(decide (fdT ((k : Nat) : Int) es < es.length))) rfl (congrArg not (decide_eq_true ht1)) ?_
              refine s_gy (y_neq (a := (((tkD ((k : Nat) : Int) es).length : Nat) : Int)) (b := 1) (c := decide (((tkD ((k : Nat) : Int) es).length : Nat) ≠ 1)) rfl rfl (decide_eq_decide.2 (by omega))) rfl rfl rfl rfl (b' := !(decide (fdT ((k : Nat) : Int) es < es.length))) rfl (congrArg not (decide_eq_true ht1)) ?_
              refine s_y (v := .bool (decide (((tkD ((k : Nat) : Int) es).length : Nat) ≠ 1))) (y_pickF (b := !(decide (fdT ((k : Nat) : Int) es < es.length))) (v := .bool (decide (((tkD ((k : Nat) : Int) es).length : Nat) ≠ 1))) rfl (congrArg not (decide_eq_true ht1)) rfl) rfl ?_
              refine s_y (v := .bool (decide (((tkD ((k : Nat) : Int) es).length : Nat) ≠ 1))) (y_move rfl) rfl ?_
              refine s_gy (y_move rfl) rfl rfl rfl rfl (b' := decide (((tkD ((k : Nat) : Int) es).length : Nat) ≠ 1)) rfl (decide_eq_false (by omega)) ?_
              refine s_gy (y_idx (o := 0 * 1) rfl rfl Try.underlying61 Try.sizeOf5 (oslR (.t (.t (.t (.t .h))))) (fl_len byteV_len _) (by decide) (by omega) (by omega) (by omega)) rfl rfl rfl rfl (b' := decide (((tkD ((k : Nat) : Int) es).length : Nat) ≠ 1)) rfl (decide_eq_false (by omega)) ?_
              refine s_gy (y_load1 (v := .int .u8 (((tkD ((k : Nat) : Int) es).getD 0 default).toNat)) rfl Try.isAgg5 (rd1 (k := 0 * 1) (oslR (.t (.t (.t (.t .h))))) (fl_get0 byteV_len (tkD ((k : Nat) : Int) es) 0 (by first | omega | (simp only [List.length_set, List.length_take, List.length_drop]; done) | (simp only [List.length_set, List.length_take, List.length_drop]; omega)) rfl))) rfl rfl rfl rfl (b' := decide (((tkD ((k : Nat) : Int) es).length : Nat) ≠ 1)) rfl (decide_eq_false (by omega)) ?_
              refine s_gy (y_move h9_36) rfl rfl rfl rfl (b' := decide (((tkD ((k : Nat) : Int) es).length : Nat) ≠ 1)) rfl (decide_eq_false (by omega)) ?_
              refine s_gy (y_convI (a := ((i : Nat) : Int)) (c := ((UInt8.ofNat i).toNat : Int)) rfl Try.underlying3 Try.underlying5 (u8_lit (by omega))) rfl rfl rfl rfl (b' := decide (((tkD ((k : Nat) : Int) es).length : Nat) ≠ 1)) rfl (decide_eq_false (by omega)) ?_
              refine s_gy (y_neq (a := ((tkD ((k : Nat) : Int) es).getD 0 default).toNat) (b := ((UInt8.ofNat i).toNat : Int)) rfl rfl rfl) rfl rfl rfl rfl (b' := decide (((tkD ((k : Nat) : Int) es).length : Nat) ≠ 1)) rfl (decide_eq_false (by omega)) ?_
              refine s_y (v := .bool (decide ((((tkD ((k : Nat) : Int) es).getD 0 default).toNat : Int) ≠ ((UInt8.ofNat i).toNat : Int)))) (y_pickF (b := decide (((tkD ((k : Nat) : Int) es).length : Nat) ≠ 1)) (v := .bool (decide ((((tkD ((k : Nat) : Int) es).getD 0 default).toNat : Int) ≠ ((UInt8.ofNat i).toNat : Int)))) rfl (decide_eq_false (by omega)) rfl) rfl ?_
              refine wpL_nil ?_
              refine thenS_n ?_
              refine wpS_cond_F (t := decide ((((tkD ((k : Nat) : Int) es).getD 0 default).toNat : Int) ≠ ((UInt8.ofNat i).toNat : Int))) rfl (decide_eq_false (by rw [ht2]; simp)) ?_
              refine wpS_skip ?_
              refine blockS_n ?_
              refine thenS_n ?_
              refine wpS_region ?_
              refine s_y (v := .int .i64 (((i : Nat) : Int))) (y_move h9_36) rfl ?_
              refine s_y (v := .int .i64 ((((i + 1) : Nat) : Int))) (y_add (a := ((i : Nat) : Int)) (b := 1) (c := (((i + 1) : Nat) : Int)) rfl rfl (wI (by omega) (by omega) (by omega))) rfl ?_
              refine s_y (v := .int .i64 ((((i + 1) : Nat) : Int))) (y_assign rfl) rfl ?_
              refine wpL_nil ?_
              refine thenS_n ?_
              exact ⟨_, by omega, ⟨(i + 1), (tkB ((k : Nat) : Int) es), ua_39, uc_40, ba_41, bc_42, rfl, by omega, (by first | exact ht3 | (rw [← rem_skip (show ¬ tO sl i = k by unfold tO; omega)]; assumption)), (by first | assumption | exact lok_tk (by assumption)), by omega, rfl, h0_36, h5_36, h8_36, rfl, .p (.t (.t (.t .h))) (.p (.t (.t .h)) (.p (.t .h) (.p .h .nil)))⟩⟩
          · -- decide (i < na) false
            have p37 := of_decide_eq_false b37
            refine wpS_exit ?_
            refine thenS_x ?_
            refine thenS_x ?_
            refine blockS_h ?_
            refine thenS_n ?_
            refine wpS_seq ?_
            refine wpS_region ?_
            refine s_y (v := .pointer (some ⟨wb_1, 0, none⟩)) (y_move h5_36) rfl ?_
            refine s_y (v := .int .i64 (((k : Nat) : Int))) (y_move h8_36) rfl ?_
            refine s_e rfl ?_
            refine e_call (f := 109) (args := #[.pointer (some ⟨wb_1, 0, none⟩), .int .i64 (((k : Nat) : Int))]) (X := ((Option Addr × Nat) × (Option Addr × Nat)) × (Option Addr × Nat)) (A := [cel wb_1 215 [.slice ua vs.length uc, .slice ba es.length bc], osl ua uc vs.length 2 218 (vs.flatMap letV), osl ba bc es.length 2 218 (es.flatMap letV), famb (vs ++ es)]) (M := []) (V := fun x => .tuple #[slV (tkD ((k : Nat) : Int) es) x.2, .bool (decide (fdT ((k : Nat) : Int) es < es.length))]) (A' := fun x => [cel wb_1 215 [.slice x.1.1.1 vs.length x.1.1.2, .slice x.1.2.1 ((tkB ((k : Nat) : Int) es).length) x.1.2.2], osl x.1.1.1 x.1.1.2 vs.length 2 218 (vs.flatMap letV), osl x.1.2.1 x.1.2.2 ((tkB ((k : Nat) : Int) es).length) 2 218 ((tkB ((k : Nat) : Int) es).flatMap letV), famb (vs ++ (tkB ((k : Nat) : Int) es)), osl x.2.1 x.2.2 ((tkD ((k : Nat) : Int) es).length) 1 5 ((tkD ((k : Nat) : Int) es).flatMap byteV)]) (C := fun _ => True) Try.call109 (ev2 rfl rfl) (.p (.t (.t (.t .h))) (.p (.t (.t .h)) (.p (.t .h) (.p .h .nil)))) (fun w hs => (take_c wb_1 ua uc ba bc vs es ((k : Nat) : Int) w (by omega) (by omega) (by assumption) (SH.lendW hs)).mono (fun e w2 hx => hx.elim (fun x hx => ⟨x, hx.1, hx.2, trivial⟩))) ?_
            rintro ⟨⟨⟨ua_47, uc_48⟩, ⟨ba_49, bc_50⟩⟩, ⟨la_51, lc_52⟩⟩ -
            have hle54 := tkB_le ((k : Nat) : Int) es
            have htn := take_none (sl := sl) (bs := es) (z := na) (k := k) (i := i) (by assumption) (by omega)
            have ht4 : cntT ((k : Nat) : Int) (tkB ((k : Nat) : Int) es) = 0 := by rw [htn.2.1]; exact htn.2.2
            refine s_y (v := .tuple #[.slice la_51 ((tkD ((k : Nat) : Int) es).length) lc_52, .bool (decide (fdT ((k : Nat) : Int) es < es.length))]) (y_move rfl) rfl ?_
            refine s_y (v := .slice la_51 ((tkD ((k : Nat) : Int) es).length) lc_52) (y_extract (v := .slice la_51 ((tkD ((k : Nat) : Int) es).length) lc_52) rfl rfl) rfl ?_
            refine s_y (v := .bool (decide (fdT ((k : Nat) : Int) es < es.length))) (y_extract (v := .bool (decide (fdT ((k : Nat) : Int) es < es.length))) rfl rfl) rfl ?_
            refine s_y (v := .slice la_51 ((tkD ((k : Nat) : Int) es).length) lc_52) (y_assign rfl) rfl ?_
            refine s_y (v := .bool (decide (fdT ((k : Nat) : Int) es < es.length))) (y_assign rfl) rfl ?_
            refine wpL_nil ?_
            refine thenS_n ?_
            refine wpS_seq ?_
            refine wpS_region ?_
            refine s_y (v := .bool (decide (fdT ((k : Nat) : Int) es < es.length))) (y_move rfl) rfl ?_
            refine s_y (v := .bool (decide (fdT ((k : Nat) : Int) es < es.length))) (y_move rfl) rfl ?_
            refine s_gy (y_move h5_36) rfl rfl rfl rfl (b' := decide (fdT ((k : Nat) : Int) es < es.length)) rfl (decide_eq_false htn.1) ?_
            refine s_gy (y_move h8_36) rfl rfl rfl rfl (b' := decide (fdT ((k : Nat) : Int) es < es.length)) rfl (decide_eq_false htn.1) ?_
            refine s_gy (y_call (args := #[.pointer (some ⟨wb_1, 0, none⟩), .int .i64 (((k : Nat) : Int))]) (v := .int .i64 ((((cntT ((k : Nat) : Int) (tkB ((k : Nat) : Int) es)) : Nat) : Int))) Try.call110 (ev2 rfl rfl) (fun w hs => wait_c wb_1 ba_49 ((tkB ((k : Nat) : Int) es).length) bc_50 (tkB ((k : Nat) : Int) es) ((k : Nat) : Int) w (own1 .h rfl w hs) rfl (oslR (.t (.t .h)) w hs) (by omega))) rfl rfl rfl rfl (b' := decide (fdT ((k : Nat) : Int) es < es.length)) rfl (decide_eq_false htn.1) ?_
            refine s_gy (y_neq (a := (((cntT ((k : Nat) : Int) (tkB ((k : Nat) : Int) es)) : Nat) : Int)) (b := 0) (c := decide (((cntT ((k : Nat) : Int) (tkB ((k : Nat) : Int) es)) : Nat) ≠ 0)) rfl rfl (decide_eq_decide.2 (by omega))) rfl rfl rfl rfl (b' := decide (fdT ((k : Nat) : Int) es < es.length)) rfl (decide_eq_false htn.1) ?_
            refine s_y (v := .bool (decide (((cntT ((k : Nat) : Int) (tkB ((k : Nat) : Int) es)) : Nat) ≠ 0))) (y_pickF (b := decide (fdT ((k : Nat) : Int) es < es.length)) (v := .bool (decide (((cntT ((k : Nat) : Int) (tkB ((k : Nat) : Int) es)) : Nat) ≠ 0))) rfl (decide_eq_false htn.1) rfl) rfl ?_
            refine wpL_nil ?_
            refine thenS_n ?_
            refine wpS_cond_F (t := decide (((cntT ((k : Nat) : Int) (tkB ((k : Nat) : Int) es)) : Nat) ≠ 0)) rfl (decide_eq_false (by omega)) ?_
            refine wpS_skip ?_
            refine blockS_n ?_
            refine thenS_n ?_
            refine wpS_region ?_
            refine s_y (v := .int .i64 (((k : Nat) : Int))) (y_move h8_36) rfl ?_
            refine s_y (v := .int .i64 ((((k + 1) : Nat) : Int))) (y_add (a := ((k : Nat) : Int)) (b := 1) (c := (((k + 1) : Nat) : Int)) rfl rfl (wI (by omega) (by omega) (by omega))) rfl ?_
            refine s_y (v := .int .i64 ((((k + 1) : Nat) : Int))) (y_assign rfl) rfl ?_
            refine wpL_nil ?_
            refine thenS_n ?_
            have hin : i = na := by omega
            have hrm : es.map kd = remO sl na k na := by have h := (show es.map kd = remO sl na k i by assumption); rw [hin] at h; exact h
            exact ⟨_, by omega, ⟨(k + 1), (tkB ((k : Nat) : Int) es), ua_47, uc_48, ba_49, bc_50, rfl, by omega, (by rw [htn.2.1, ← rem_next]; exact hrm), (lok_tk (by assumption)), by omega, rfl, h0_36, h5_36, rfl, .p (.t (.t (.t .h))) (.p (.t (.t .h)) (.p (.t .h) (.p .h .nil)))⟩⟩
        · -- decide ((k : Nat) < 3) false
          have p35 := of_decide_eq_false b35
          refine wpS_exit ?_
          refine thenS_x ?_
          refine thenS_x ?_
          refine blockS_h ?_
          refine thenS_n ?_
          refine wpS_seq ?_
          refine wpS_region ?_
          refine s_y (v := .bool true) (y_assign rfl) rfl ?_
          refine wpL_nil ?_
          refine thenS_n ?_
          refine wpS_ret ?_
          refine fin1 (v := .bool true) (.inr rfl) (.nil) Try.results31 rfl ?_
          exact fun w' hs => ⟨rfl, hs⟩

end Go.Proofs.Ytldkjjnjdjfipaa
