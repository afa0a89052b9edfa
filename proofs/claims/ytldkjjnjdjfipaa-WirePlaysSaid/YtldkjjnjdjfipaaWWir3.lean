/- The wire's calls, walked. -/
import Derived.Test.YtldkjjnjdjfipaaWWir2
import Derived.Test.YtldkjjnjdjfipaaP19b
namespace Go.Proofs.Ytldkjjnjdjfipaa
open Go Go.RowKit
set_option linter.unusedVariables false
set_option linter.unusedSimpArgs false
set_option maxRecDepth 10000
set_option maxHeartbeats 1000000

theorem under0_c (w : World) : Pure Try.prog 106 #[.pointer none] w (.int .i64 0) := by
  refine calls_S (n := 10) (σ0 := (upd fr0 0 (.pointer none))) (D := []) (A := []) Try.func106 rfl Try.ntmps106 rfl (a1_fr _) (SH.start w) ?_
  refine wpS_seq ?_
  refine wpS_region ?_
  refine s_y (v := .int .i64 0) (y_assign rfl) rfl ?_
  refine wpL_nil ?_
  refine thenS_n ?_
  refine wpS_seq ?_
  refine wpS_seq ?_
  refine wpS_region ?_
  refine s_y (v := .pointer none) (y_move rfl) rfl ?_
  refine s_y (v := .bool true) (y_ptrEq rfl rfl Try.underlying125 (by kernel_rfl) rfl) rfl ?_
  refine wpL_nil ?_
  refine thenS_n ?_
  refine wpS_cond_t rfl ?_
  refine wpS_seq ?_
  refine wpS_region ?_
  refine s_y (v := .int .i64 0) (y_assign rfl) rfl ?_
  refine wpL_nil ?_
  refine thenS_n ?_
  refine wpS_ret ?_
  refine thenS_r ?_
  refine fin1 (M := []) (v := .int .i64 0) (.inr rfl) (.nil) Try.results106 rfl ?_
  exact fun w' hs => ⟨rfl, hs⟩

theorem under_c (wb : Nat) (ua : Option Addr) (un uc : Nat) (w : World) (hu : w.cell? ⟨wb, 0, none⟩ = some (.slice ua un uc)) : Pure Try.prog 106 #[.pointer (some ⟨wb, 0, none⟩)] w (.int .i64 (((un : Nat) : Int))) := by
  refine calls_S (n := 10) (σ0 := (upd fr0 0 (.pointer (some ⟨wb, 0, none⟩)))) (D := []) (A := []) Try.func106 rfl Try.ntmps106 rfl (a1_fr _) (SH.start w) ?_
  refine wpS_seq ?_
  refine wpS_region ?_
  refine s_y (v := .int .i64 0) (y_assign rfl) rfl ?_
  refine wpL_nil ?_
  refine thenS_n ?_
  refine wpS_seq ?_
  refine wpS_seq ?_
  refine wpS_region ?_
  refine s_y (v := .pointer (some ⟨wb, 0, none⟩)) (y_move rfl) rfl ?_
  refine s_y (v := .bool false) (y_ptrEq rfl rfl Try.underlying125 (by kernel_rfl) rfl) rfl ?_
  refine wpL_nil ?_
  refine thenS_n ?_
  refine wpS_cond_f rfl ?_
  refine wpS_skip ?_
  refine thenS_n ?_
  refine wpS_seq ?_
  refine wpS_region ?_
  refine s_y (v := .pointer (some ⟨wb, 0, none⟩)) (y_move rfl) rfl ?_
  refine s_y (v := .pointer (some ⟨wb, 0, none⟩)) (y_nilP rfl) rfl ?_
  refine s_y (v := .pointer (some ⟨wb, 0, none⟩)) (y_fieldAddr (o' := 0) rfl Try.underlying215 rfl Try.sizeOf213 (by decide) rfl) rfl ?_
  refine s_y (v := .slice ua un uc) (y_load1 (v := .slice ua un uc) rfl Try.isAgg213 (old1 hu (by simp))) rfl ?_
  refine s_y (v := .int .i64 (((un : Nat) : Int))) (y_len (ty' := 0) (at_ := #[]) rfl Try.underlying213) rfl ?_
  refine s_y (v := .int .i64 (((un : Nat) : Int))) (y_assign rfl) rfl ?_
  refine wpL_nil ?_
  refine thenS_n ?_
  refine wpS_ret ?_
  refine fin1 (M := []) (v := .int .i64 (((un : Nat) : Int))) (.inr rfl) (.nil) Try.results106 rfl ?_
  exact fun w' hs => ⟨rfl, hs⟩

theorem at0_c (i : Int) (w : World) : Pure Try.prog 188 #[.pointer none, .int .i64 i] w (.tuple #[.int .i64 0, .bool false]) := by
  refine calls_S (n := 18) (σ0 := (upd (upd fr0 0 (.pointer none)) 1 (.int .i64 i))) (D := []) (A := []) Try.func188 rfl Try.ntmps188 rfl (a2_fr _ _) (SH.start w) ?_
  refine wpS_seq ?_
  refine wpS_region ?_
  refine s_y (v := .int .i64 0) (y_assign rfl) rfl ?_
  refine s_y (v := .bool false) (y_assign rfl) rfl ?_
  refine wpL_nil ?_
  refine thenS_n ?_
  refine wpS_seq ?_
  refine wpS_region ?_
  refine s_y (v := .pointer none) (y_move rfl) rfl ?_
  refine s_y (v := .int .i64 0) (y_call (args := #[.pointer none]) (v := .int .i64 0) Try.call106 (ev1 rfl) (fun w hs => under0_c w)) rfl ?_
  refine s_y (v := .int .i64 0) (y_assign rfl) rfl ?_
  refine wpL_nil ?_
  refine thenS_n ?_
  refine wpS_seq ?_
  refine wpS_seq ?_
  refine wpS_region ?_
  refine s_y (v := .int .i64 0) (y_move rfl) rfl ?_
  refine s_y (v := .bool true) (y_eql (a := 0) (b := 0) rfl rfl (by decide)) rfl ?_
  refine wpL_nil ?_
  refine thenS_n ?_
  refine wpS_cond_t rfl ?_
  refine wpS_seq ?_
  refine wpS_region ?_
  refine s_y (v := .int .i64 0) (y_assign rfl) rfl ?_
  refine s_y (v := .bool false) (y_assign rfl) rfl ?_
  refine wpL_nil ?_
  refine thenS_n ?_
  refine wpS_ret ?_
  refine thenS_r ?_
  refine fin2 (M := []) (.inr rfl) (.nil) Try.results188 (rvT (v := .int .i64 0) rfl) (rvT (v := .bool false) rfl) ?_
  exact fun w' hs => ⟨rfl, hs⟩

theorem atW_c (wb : Nat) (ua : Option Addr) (un uc : Nat) (i : Int) (w : World) (hun : un ≤ 1000000) (hu : w.cell? ⟨wb, 0, none⟩ = some (.slice ua un uc)) : Pure Try.prog 188 #[.pointer (some ⟨wb, 0, none⟩), .int .i64 i] w (.tuple #[.int .i64 ((((atI un i) : Nat) : Int)), .bool ((decide (0 < un)))]) := by
  refine calls_S (n := 18) (σ0 := (upd (upd fr0 0 (.pointer (some ⟨wb, 0, none⟩))) 1 (.int .i64 i))) (D := []) (A := []) Try.func188 rfl Try.ntmps188 rfl (a2_fr _ _) (SH.start w) ?_
  refine wpS_seq ?_
  refine wpS_region ?_
  refine s_y (v := .int .i64 0) (y_assign rfl) rfl ?_
  refine s_y (v := .bool false) (y_assign rfl) rfl ?_
  refine wpL_nil ?_
  refine thenS_n ?_
  refine wpS_seq ?_
  refine wpS_region ?_
  refine s_y (v := .pointer (some ⟨wb, 0, none⟩)) (y_move rfl) rfl ?_
  refine s_y (v := .int .i64 (((un : Nat) : Int))) (y_call (args := #[.pointer (some ⟨wb, 0, none⟩)]) (v := .int .i64 (((un : Nat) : Int))) Try.call106 (ev1 rfl) (fun w hs => under_c wb ua un uc w (old1 hu (by simp) w hs))) rfl ?_
  refine s_y (v := .int .i64 (((un : Nat) : Int))) (y_assign rfl) rfl ?_
  refine wpL_nil ?_
  refine thenS_n ?_
  refine wpS_seq ?_
  refine wpS_seq ?_
  refine wpS_region ?_
  refine s_y (v := .int .i64 (((un : Nat) : Int))) (y_move rfl) rfl ?_
  refine s_y (v := .bool (decide ((un : Nat) = 0))) (y_eql (a := ((un : Nat) : Int)) (b := 0) (c := decide ((un : Nat) = 0)) rfl rfl (decide_eq_decide.2 (by omega))) rfl ?_
  refine wpL_nil ?_
  refine thenS_n ?_
  refine wpS_cond (t := decide ((un : Nat) = 0)) rfl (fun b1 => ?_) (fun b1 => ?_)
  · -- decide ((un : Nat) = 0) true
    have p1 := of_decide_eq_true b1
    refine wpS_seq ?_
    refine wpS_region ?_
    refine s_y (v := .int .i64 0) (y_assign rfl) rfl ?_
    refine s_y (v := .bool false) (y_assign rfl) rfl ?_
    refine wpL_nil ?_
    refine thenS_n ?_
    refine wpS_ret ?_
    refine thenS_r ?_
    refine fin2 (M := []) (.inr rfl) (.nil) Try.results188 (rvT (v := .int .i64 0) rfl) (rvT (v := .bool false) rfl) ?_
    exact fun w' hs => ⟨by rw [show un = 0 by omega]; rfl, hs⟩
  · -- decide ((un : Nat) = 0) false
    have p1 := of_decide_eq_false b1
    refine wpS_skip ?_
    refine thenS_n ?_
    refine wpS_seq ?_
    refine wpS_region ?_
    refine s_y (v := .int .i64 i) (y_move rfl) rfl ?_
    refine s_y (v := .int .i64 (((un : Nat) : Int))) (y_move rfl) rfl ?_
    have htm := tm_bd i (k := un) (by omega)
    refine s_y (v := .int .i64 (i.tmod ((un : Nat) : Int))) (y_rem (a := i) (b := ((un : Nat) : Int)) (c := i.tmod ((un : Nat) : Int)) rfl rfl (by omega) rfl) rfl ?_
    refine s_y (v := .int .i64 (((un : Nat) : Int))) (y_move rfl) rfl ?_
    refine s_y (v := .int .i64 ((i.tmod ((un : Nat) : Int)) + ((un : Nat) : Int))) (y_add (a := i.tmod ((un : Nat) : Int)) (b := ((un : Nat) : Int)) (c := (i.tmod ((un : Nat) : Int)) + ((un : Nat) : Int)) rfl rfl (wI rfl (by omega) (by omega))) rfl ?_
    refine s_y (v := .int .i64 (((un : Nat) : Int))) (y_move rfl) rfl ?_
    refine s_y (v := .int .i64 ((((atI un i) : Nat) : Int))) (y_rem (a := (i.tmod ((un : Nat) : Int)) + ((un : Nat) : Int)) (b := ((un : Nat) : Int)) (c := (((atI un i) : Nat) : Int)) rfl rfl (by omega) (atI_eq i (by omega))) rfl ?_
    refine s_y (v := .int .i64 ((((atI un i) : Nat) : Int))) (y_assign rfl) rfl ?_
    refine s_y (v := .bool true) (y_assign rfl) rfl ?_
    refine wpL_nil ?_
    refine thenS_n ?_
    refine wpS_ret ?_
    refine fin2 (M := []) (.inr rfl) (.nil) Try.results188 (rvT (v := .int .i64 ((((atI un i) : Nat) : Int))) rfl) (rvT (v := .bool true) rfl) ?_
    exact fun w' hs => ⟨by rw [decide_eq_true (show 0 < un by omega)], hs⟩

theorem new_c (w : World) : Makes Try.prog 102 #[] w [] (X := Nat) (fun b => .pointer (some ⟨b, 0, none⟩)) (fun b => [cel b 215 [.slice none 0 0, .slice none 0 0]]) (fun _ => True) := by
  refine calls_S (n := 3) (σ0 := fr0) (D := []) (A := []) Try.func102 rfl Try.ntmps102 rfl (a0_fr) (SH.start w) ?_
  refine wpS_seq ?_
  refine wpS_region ?_
  refine s_y (v := .pointer none) (y_assign rfl) rfl ?_
  refine wpL_nil ?_
  refine thenS_n ?_
  refine wpS_seq ?_
  refine wpS_region ?_
  refine s_y (v := .agg #[.slice none 0 0, .slice none 0 0]) (y_buildL (m := []) (vs := #[.slice none 0 0, .slice none 0 0]) evn (fun w => by kernel_rfl)) rfl ?_
  refine s_e rfl ?_
  refine e_box (v := .agg #[.slice none 0 0, .slice none 0 0]) (l := [.slice none 0 0, .slice none 0 0]) rfl rfl ?_
  intro b_1
  refine s_y (v := .pointer (some ⟨b_1, 0, none⟩)) (y_assign rfl) rfl ?_
  refine wpL_nil ?_
  refine thenS_n ?_
  refine wpS_ret ?_
  refine fin1 (M := [cel b_1 215 [.slice none 0 0, .slice none 0 0]]) (v := .pointer (some ⟨b_1, 0, none⟩)) (.inr rfl) (.p .h .nil) Try.results102 rfl ?_
  exact fun w' hs => ⟨b_1, rfl, hs, trivial⟩

theorem dropI_c (wb : Nat) (ua : Option Addr) (uc : Nat) (ba : Option Addr) (bn bc : Nat) (us : List Let) (j : Nat) (w : World) (hul : us.length ≤ 1000000) (hj : j < us.length) (hA : SH w (([cel wb 215 [.slice ua us.length uc, .slice ba bn bc], osl ua uc us.length 2 218 (us.flatMap letV)] : List Res).flatMap Res.fp) [cel wb 215 [.slice ua us.length uc, .slice ba bn bc], osl ua uc us.length 2 218 (us.flatMap letV)] w) : Calls Try.prog 189 #[.pointer (some ⟨wb, 0, none⟩), .int .i64 (((j : Nat) : Int))] w (fun e w' => ∃ x : Option Addr × Nat, e = .returned (.tuple #[]) ∧ SH w (([cel wb 215 [.slice ua us.length uc, .slice ba bn bc], osl ua uc us.length 2 218 (us.flatMap letV)] : List Res).flatMap Res.fp) [cel wb 215 [.slice x.1 (cutL us j).length x.2, .slice ba bn bc], osl x.1 x.2 (cutL us j).length 2 218 ((cutL us j).flatMap letV)] w') := by
  refine calls_S (n := 16) (σ0 := (upd (upd fr0 0 (.pointer (some ⟨wb, 0, none⟩))) 1 (.int .i64 (((j : Nat) : Int))))) (D := (([cel wb 215 [.slice ua us.length uc, .slice ba bn bc], osl ua uc us.length 2 218 (us.flatMap letV)] : List Res).flatMap Res.fp)) (A := [cel wb 215 [.slice ua us.length uc, .slice ba bn bc], osl ua uc us.length 2 218 (us.flatMap letV)]) Try.func189 rfl Try.ntmps189 rfl (a2_fr _ _) hA ?_
  refine wpS_region ?_
  refine s_y (v := .pointer (some ⟨wb, 0, none⟩)) (y_move rfl) rfl ?_
  refine s_y (v := .pointer (some ⟨wb, 0, none⟩)) (y_move rfl) rfl ?_
  refine s_y (v := .pointer (some ⟨wb, 0, none⟩)) (y_nilP rfl) rfl ?_
  refine s_y (v := .pointer (some ⟨wb, 0, none⟩)) (y_fieldAddr (o' := 0) rfl Try.underlying215 rfl Try.sizeOf213 (by decide) rfl) rfl ?_
  refine s_y (v := .slice ua us.length uc) (y_load1 rfl Try.isAgg213 (own1 .h rfl)) rfl ?_
  refine s_e rfl ?_
  refine e_call (f := 192) (args := #[.slice ua us.length uc]) (X := Option Addr × Nat) (A := []) (M := [cel wb 215 [.slice ua us.length uc, .slice ba bn bc], osl ua uc us.length 2 218 (us.flatMap letV)]) (V := slV us) (A' := fun x => [slR letV 2 218 us x]) (C := fun x => us.length ≤ x.2) Try.call192 (ev1 rfl) (.p .h (.p .h .nil)) (fun w hs => (cloneL_c ua us.length uc us w rfl (oslR (.t .h) w hs) (by omega)).cap) ?_
  rintro ⟨a_1, c_2⟩ hc3; replace hc3 : us.length ≤ c_2 := hc3
  refine s_y (v := .int .i64 (((j : Nat) : Int))) (y_move rfl) rfl ?_
  refine s_y (v := .int .i64 (((j : Nat) : Int))) (y_move rfl) rfl ?_
  refine s_y (v := .int .i64 ((((j + 1) : Nat) : Int))) (y_add (a := ((j : Nat) : Int)) (b := 1) (c := (((j + 1) : Nat) : Int)) rfl rfl (wI (by omega) (by omega) (by omega))) rfl ?_
  refine s_e rfl ?_
  refine e_call (f := 191) (args := #[.slice a_1 us.length c_2, .int .i64 (((j : Nat) : Int)), .int .i64 ((((j + 1) : Nat) : Int))]) (X := Unit) (A := [osl a_1 c_2 us.length 2 218 (us.flatMap letV)]) (M := [cel wb 215 [.slice ua us.length uc, .slice ba bn bc], osl ua uc us.length 2 218 (us.flatMap letV)]) (V := fun _ => .slice a_1 (us.length - 1) c_2) (A' := fun _ => [osl a_1 c_2 (us.length - 1) 2 218 ((cutL us j).flatMap letV)]) (C := fun _ => True) Try.call191 (ev3 rfl rfl rfl) (.p .h (.p .h (.p .h .nil))) (fun w hs => (delete_c a_1 us.length c_2 j us w (by first | rfl | omega) (by omega) (by omega) (SH.lendW hs)).mono (fun e w2 hx => ⟨(), hx.1, hx.2, trivial⟩)) ?_
  rintro ⟨⟩ -
  refine s_y (v := .pointer (some ⟨wb, 0, none⟩)) (y_nilP rfl) rfl ?_
  refine s_y (v := .pointer (some ⟨wb, 0, none⟩)) (y_fieldAddr (o' := 0) rfl Try.underlying215 rfl Try.sizeOf213 (by decide) rfl) rfl ?_
  refine s_e0 ?_
  refine e_store (vs := [.slice a_1 (us.length - 1) c_2]) (l' := [.slice a_1 (us.length - 1) c_2, .slice ba bn bc]) rfl rfl rfl rfl Try.sizeOf213 (.t .h) (Nat.le_of_ble_eq_true rfl) rfl ?_
  refine wpL_nil ?_
  refine fin0 (M := [cel wb 215 [.slice a_1 (us.length - 1) c_2, .slice ba bn bc], osl a_1 c_2 (us.length - 1) 2 218 ((cutL us j).flatMap letV)]) (.inl rfl) (.p .h (.p .h .nil)) Try.results189 ?_
  exact fun w' hs => ⟨(a_1, c_2), rfl, by rw [cutL_len (by omega)]; exact hs⟩

theorem deliver0_c (i : Int) (w : World) : Pure Try.prog 108 #[.pointer none, .int .i64 i] w (.bool false) := by
  refine calls_S (n := 34) (σ0 := (upd (upd fr0 0 (.pointer none)) 1 (.int .i64 i))) (D := []) (A := []) Try.func108 rfl Try.ntmps108 rfl (a2_fr _ _) (SH.start w) ?_
  refine wpS_seq ?_
  refine wpS_region ?_
  refine s_y (v := .bool false) (y_assign rfl) rfl ?_
  refine wpL_nil ?_
  refine thenS_n ?_
  refine wpS_seq ?_
  refine wpS_region ?_
  refine s_y (v := .pointer none) (y_move rfl) rfl ?_
  refine s_y (v := .int .i64 i) (y_move rfl) rfl ?_
  refine s_y (v := .tuple #[.int .i64 0, .bool false]) (y_call (args := #[.pointer none, .int .i64 i]) (v := .tuple #[.int .i64 0, .bool false]) Try.call188 (ev2 rfl rfl) (fun w hs => at0_c i w)) rfl ?_
  refine s_y (v := .tuple #[.int .i64 0, .bool false]) (y_move rfl) rfl ?_
  refine s_y (v := .int .i64 0) (y_extract (v := .int .i64 0) rfl rfl) rfl ?_
  refine s_y (v := .bool false) (y_extract (v := .bool false) rfl rfl) rfl ?_
  refine s_y (v := .int .i64 0) (y_assign rfl) rfl ?_
  refine s_y (v := .bool false) (y_assign rfl) rfl ?_
  refine wpL_nil ?_
  refine thenS_n ?_
  refine wpS_seq ?_
  refine wpS_seq ?_
  refine wpS_region ?_
  refine s_y (v := .bool false) (y_move rfl) rfl ?_
  refine wpL_nil ?_
  refine thenS_n ?_
  refine wpS_cond_f rfl ?_
  refine wpS_skip ?_
  refine thenS_n ?_
  refine wpS_seq ?_
  refine wpS_region ?_
  refine s_y (v := .bool false) (y_move rfl) rfl ?_
  refine s_y (v := .bool false) (y_assign rfl) rfl ?_
  refine wpL_nil ?_
  refine thenS_n ?_
  refine wpS_ret ?_
  refine fin1 (M := []) (v := .bool false) (.inr rfl) (.nil) Try.results108 rfl ?_
  exact fun w' hs => ⟨rfl, hs⟩

theorem deliver_c (wb : Nat) (ua : Option Addr) (uc : Nat) (ba : Option Addr) (bc : Nat) (us bs : List Let) (i : Int) (w : World) (hul : us.length ≤ 100000) (hbl : bs.length ≤ 100000) (hA : SH w (([cel wb 215 [.slice ua us.length uc, .slice ba bs.length bc], osl ua uc us.length 2 218 (us.flatMap letV), osl ba bc bs.length 2 218 (bs.flatMap letV), famb (us ++ bs)] : List Res).flatMap Res.fp) [cel wb 215 [.slice ua us.length uc, .slice ba bs.length bc], osl ua uc us.length 2 218 (us.flatMap letV), osl ba bc bs.length 2 218 (bs.flatMap letV), famb (us ++ bs)] w) : Calls Try.prog 108 #[.pointer (some ⟨wb, 0, none⟩), .int .i64 i] w (fun e w' => ∃ x : (Option Addr × Nat) × (Option Addr × Nat), e = .returned (.bool (decide (0 < us.length))) ∧ SH w (([cel wb 215 [.slice ua us.length uc, .slice ba bs.length bc], osl ua uc us.length 2 218 (us.flatMap letV), osl ba bc bs.length 2 218 (bs.flatMap letV), famb (us ++ bs)] : List Res).flatMap Res.fp) [cel wb 215 [.slice x.1.1 ((dlU us i).length) x.1.2, .slice x.2.1 ((dlB us bs i).length) x.2.2], osl x.1.1 x.1.2 ((dlU us i).length) 2 218 ((dlU us i).flatMap letV), osl x.2.1 x.2.2 ((dlB us bs i).length) 2 218 ((dlB us bs i).flatMap letV), famb ((dlU us i) ++ (dlB us bs i))] w') := by
  refine calls_S (n := 34) (σ0 := (upd (upd fr0 0 (.pointer (some ⟨wb, 0, none⟩))) 1 (.int .i64 i))) (D := (([cel wb 215 [.slice ua us.length uc, .slice ba bs.length bc], osl ua uc us.length 2 218 (us.flatMap letV), osl ba bc bs.length 2 218 (bs.flatMap letV), famb (us ++ bs)] : List Res).flatMap Res.fp)) (A := [cel wb 215 [.slice ua us.length uc, .slice ba bs.length bc], osl ua uc us.length 2 218 (us.flatMap letV), osl ba bc bs.length 2 218 (bs.flatMap letV), famb (us ++ bs)]) Try.func108 rfl Try.ntmps108 rfl (a2_fr _ _) hA ?_
  have hlt : 0 < us.length → atI us.length i < us.length := fun h => atI_lt i h
  refine wpS_seq ?_
  refine wpS_region ?_
  refine s_y (v := .bool false) (y_assign rfl) rfl ?_
  refine wpL_nil ?_
  refine thenS_n ?_
  refine wpS_seq ?_
  refine wpS_region ?_
  refine s_y (v := .pointer (some ⟨wb, 0, none⟩)) (y_move rfl) rfl ?_
  refine s_y (v := .int .i64 i) (y_move rfl) rfl ?_
  refine s_y (v := .tuple #[.int .i64 ((((atI us.length i) : Nat) : Int)), .bool (decide (0 < us.length))]) (y_call (args := #[.pointer (some ⟨wb, 0, none⟩), .int .i64 i]) (v := .tuple #[.int .i64 ((((atI us.length i) : Nat) : Int)), .bool (decide (0 < us.length))]) Try.call188 (ev2 rfl rfl) (fun w hs => atW_c wb ua us.length uc i w (by omega) (own1 .h rfl w hs))) rfl ?_
  refine s_y (v := .tuple #[.int .i64 ((((atI us.length i) : Nat) : Int)), .bool (decide (0 < us.length))]) (y_move rfl) rfl ?_
  refine s_y (v := .int .i64 ((((atI us.length i) : Nat) : Int))) (y_extract (v := .int .i64 ((((atI us.length i) : Nat) : Int))) rfl rfl) rfl ?_
  refine s_y (v := .bool (decide (0 < us.length))) (y_extract (v := .bool (decide (0 < us.length))) rfl rfl) rfl ?_
  refine s_y (v := .int .i64 ((((atI us.length i) : Nat) : Int))) (y_assign rfl) rfl ?_
  refine s_y (v := .bool (decide (0 < us.length))) (y_assign rfl) rfl ?_
  refine wpL_nil ?_
  refine thenS_n ?_
  refine wpS_seq ?_
  refine wpS_seq ?_
  refine wpS_region ?_
  refine s_y (v := .bool (decide (0 < us.length))) (y_move rfl) rfl ?_
  refine wpL_nil ?_
  refine thenS_n ?_
  refine wpS_cond (t := decide (0 < us.length)) rfl (fun b1 => ?_) (fun b1 => ?_)
  · -- decide (0 < us.length) true
    have p1 := of_decide_eq_true b1
    refine wpS_seq ?_
    refine wpS_anyL [] [] (by kernel_rfl) ?_
    refine anyS_take (i := 0) rfl (by kernel_rfl) (by kernel_rfl) (by kernel_rfl) (by kernel_rfl) (Yq.of (v := .pointer (some ⟨wb, 0, none⟩)) (y_move rfl) rfl) (.nil) ?_
    refine anyS_take (i := 1) rfl (by kernel_rfl) (by kernel_rfl) (by kernel_rfl) (by kernel_rfl) (Yq.of (v := .pointer (some ⟨wb, 0, none⟩)) (y_move rfl) rfl) (.nil) ?_
    refine anyS_take (i := 2) rfl (by kernel_rfl) (by kernel_rfl) (by kernel_rfl) (by kernel_rfl) (Yq.of (v := .pointer (some ⟨wb, 0, none⟩)) (y_nilP rfl) rfl) (.nil) ?_
    refine anyS_take (i := 3) rfl (by kernel_rfl) (by kernel_rfl) (by kernel_rfl) (by kernel_rfl) (Yq.of (v := .pointer (some ⟨wb, 1, none⟩)) (y_fieldAddr (o' := 1) rfl Try.underlying215 rfl Try.sizeOf213 (by decide) rfl) rfl) (.nil) ?_
    refine anyS_take (i := 5) rfl (by kernel_rfl) (by kernel_rfl) (by kernel_rfl) (by kernel_rfl) (Yq.of (v := .pointer (some ⟨wb, 0, none⟩)) (y_move rfl) rfl) (.nil) ?_
    refine anyS_take (i := 6) rfl (by kernel_rfl) (by kernel_rfl) (by kernel_rfl) (by kernel_rfl) (Yq.of (v := .pointer (some ⟨wb, 0, none⟩)) (y_nilP rfl) rfl) (.nil) ?_
    refine anyS_take (i := 7) rfl (by kernel_rfl) (by kernel_rfl) (by kernel_rfl) (by kernel_rfl) (Yq.of (v := .pointer (some ⟨wb, 0, none⟩)) (y_fieldAddr (o' := 0) rfl Try.underlying215 rfl Try.sizeOf213 (by decide) rfl) rfl) (.nil) ?_
    refine anyS_take (i := 9) rfl (by kernel_rfl) (by kernel_rfl) (by kernel_rfl) (by kernel_rfl) (Yq.of (v := .int .i64 ((((atI us.length i) : Nat) : Int))) (y_move rfl) rfl) (.nil) ?_
    refine anyS_all (rs := [4, 8]) (by kernel_rfl) (by simp) ?_
    intro i hi2; simp only [List.mem_cons, List.not_mem_nil, or_false] at hi2; rcases hi2 with rfl | rfl
    · -- number 4 first
      refine opS_0 rfl rfl ?_
      refine OpE.y (v := .slice ba bs.length bc) (y_load1 rfl Try.isAgg213 (own1 .h rfl)) ?_
      refine ⟨.inr (.nil), ?_⟩
      refine anyS_all (rs := [8]) (by kernel_rfl) (by simp) ?_
      intro i hi; obtain rfl := List.mem_singleton.1 hi; clear hi
      refine opS_0 rfl rfl ?_
      refine OpE.y (v := .slice ua us.length uc) (y_load1 rfl Try.isAgg213 (own1 .h rfl)) ?_
      refine ⟨.inr (.nil), ?_⟩
      refine anyS_all (rs := [10]) (by kernel_rfl) (by simp) ?_
      intro i hi; obtain rfl := List.mem_singleton.1 hi; clear hi
      refine opS_0 rfl rfl ?_
      refine OpE.y (v := .pointer (some ⟨aB ua, aO ua + (atI us.length i) * 2, none⟩)) (y_idx (o := (atI us.length i) * 2) rfl rfl Try.underlying213 Try.sizeOf218 (oslR (.t .h)) (fl_len letV_len _) (by decide) (by omega) (by omega) (by omega)) ?_
      refine ⟨.inr (.nil), ?_⟩
      refine anyS_all (rs := [11]) (by kernel_rfl) (by simp) ?_
      intro i hi; obtain rfl := List.mem_singleton.1 hi; clear hi
      refine opS_0 rfl rfl ?_
      refine OpE.y (v := .agg #[.int .i64 ((us.getD (atI us.length i) default).to), .slice ((us.getD (atI us.length i) default).a) ((us.getD (atI us.length i) default).n) ((us.getD (atI us.length i) default).c)]) (y_loadN (vs := letV (us.getD (atI us.length i) default)) rfl Try.isAgg218 Try.sizeOf218 (rdN (oslR (.t .h)) (fl_getN letV_len us (atI us.length i) (by first | omega | (simp only [List.length_set, List.length_take, List.length_drop]; done) | (simp only [List.length_set, List.length_take, List.length_drop]; omega))))) ?_
      refine ⟨.inr (.nil), ?_⟩
      refine anyS_all (rs := [12]) (by kernel_rfl) (by simp) ?_
      intro i hi; obtain rfl := List.mem_singleton.1 hi; clear hi
      refine opS_0 rfl rfl ?_
      refine e_bsliceL (e := 218) (m := [(0, .agg #[.int .i64 ((us.getD (atI us.length i) default).to), .slice ((us.getD (atI us.length i) default).a) ((us.getD (atI us.length i) default).n) ((us.getD (atI us.length i) default).c)])]) (l := [.int .i64 ((us.getD (atI us.length i) default).to), .slice ((us.getD (atI us.length i) default).a) ((us.getD (atI us.length i) default).n) ((us.getD (atI us.length i) default).c)]) (evc rfl evn) (fun w => by kernel_rfl) ?_
      intro b_3
      refine ⟨.inr (.nil), ?_⟩
      refine anyS_all (rs := [13]) (by kernel_rfl) (by simp) ?_
      intro i hi; obtain rfl := List.mem_singleton.1 hi; clear hi
      refine opS_0 rfl rfl ?_
      refine e_appendL (enc := letV) (xs := (bs : List Let)) (ns := ([(us.getD (atI us.length i) default)] : List Let)) (zs := (bs ++ [(us.getD (atI us.length i) default)])) (bytes := 32) letV_len letV_one Try.underlying213 (i := Try.t218) rfl rfl rfl rfl rfl (by decide) rfl rfl (by first | rfl | omega) (by first | rfl | omega) (.t (.t (.t .h))) (fun w hs => celR .h w hs) (by first | rfl | simp) (by (try simp only [List.length_append, List.length_cons, List.length_nil] at *); omega) (by (try simp only [List.length_append, List.length_cons, List.length_nil] at *); omega) ?_
      intro a_4 c_5
      refine ⟨.inr (.nil), ?_⟩
      refine anyS_take (i := 14) rfl (by kernel_rfl) (by kernel_rfl) (by kernel_rfl) (by kernel_rfl) (Yq.of (v := .pointer (some ⟨wb, 0, none⟩)) (y_nilP rfl) rfl) (.nil) ?_
      refine anyS_take (i := 15) rfl (by kernel_rfl) (by kernel_rfl) (by kernel_rfl) (by kernel_rfl) (Yq.of (v := .pointer (some ⟨wb, 1, none⟩)) (y_fieldAddr (o' := 1) rfl Try.underlying215 rfl Try.sizeOf213 (by decide) rfl) rfl) (.nil) ?_
      refine anyS_all (rs := [16]) (by kernel_rfl) (by simp) ?_
      intro i hi; obtain rfl := List.mem_singleton.1 hi; clear hi
      refine opS_0 rfl rfl ?_
      refine e_store (vs := [.slice a_4 ((bs ++ [(us.getD (atI us.length i) default)]).length) c_5]) (l' := [.slice ua us.length uc, .slice a_4 ((bs ++ [(us.getD (atI us.length i) default)]).length) c_5]) rfl rfl rfl rfl Try.sizeOf213 (.t (.t .h)) (Nat.le_of_ble_eq_true rfl) rfl ?_
      refine ⟨.inr (.nil), ?_⟩
      refine anyS_done (by kernel_rfl) ?_
      refine thenS_n ?_
      refine wpS_region ?_
      refine s_y (v := .pointer (some ⟨wb, 0, none⟩)) (y_move rfl) rfl ?_
      refine s_y (v := .int .i64 ((((atI us.length i) : Nat) : Int))) (y_move rfl) rfl ?_
      refine s_e rfl ?_
      refine e_call (f := 189) (args := #[.pointer (some ⟨wb, 0, none⟩), .int .i64 ((((atI us.length i) : Nat) : Int))]) (X := Option Addr × Nat) (A := [cel wb 215 [.slice ua us.length uc, .slice a_4 ((bs ++ [(us.getD (atI us.length i) default)]).length) c_5], osl ua uc us.length 2 218 (us.flatMap letV)]) (M := [osl a_4 c_5 ((bs ++ [(us.getD (atI us.length i) default)]).length) 2 218 ((bs ++ [(us.getD (atI us.length i) default)]).flatMap letV), cel b_3 218 [.int .i64 ((us.getD (atI us.length i) default).to), .slice ((us.getD (atI us.length i) default).a) ((us.getD (atI us.length i) default).n) ((us.getD (atI us.length i) default).c)], famb (us ++ bs)]) (V := fun _ => .tuple #[]) (A' := fun x => [cel wb 215 [.slice x.1 ((cutL us (atI us.length i)).length) x.2, .slice a_4 ((bs ++ [(us.getD (atI us.length i) default)]).length) c_5], osl x.1 x.2 ((cutL us (atI us.length i)).length) 2 218 ((cutL us (atI us.length i)).flatMap letV)]) (C := fun _ => True) Try.call189 (ev2 rfl rfl) (.p .h (.p (.t (.t .h)) (.p .h (.p .h (.p .h .nil))))) (fun w hs => (dropI_c wb ua uc a_4 ((bs ++ [(us.getD (atI us.length i) default)]).length) c_5 us (atI us.length i) w (by omega) (by omega) (SH.lendW hs)).mono (fun e w2 hx => hx.elim (fun x hx => ⟨x, hx.1, hx.2, trivial⟩))) ?_
      rintro ⟨ua_6, uc_7⟩ -
      refine wpL_nil ?_
      refine thenS_n ?_
      refine wpS_seq ?_
      refine wpS_region ?_
      refine s_y (v := .bool (decide (0 < us.length))) (y_move rfl) rfl ?_
      refine s_y (v := .bool (decide (0 < us.length))) (y_assign rfl) rfl ?_
      refine wpL_nil ?_
      refine thenS_n ?_
      refine wpS_ret ?_
      refine fin1 (M := [cel wb 215 [.slice ua_6 ((cutL us (atI us.length i)).length) uc_7, .slice a_4 ((bs ++ [(us.getD (atI us.length i) default)]).length) c_5], osl ua_6 uc_7 ((cutL us (atI us.length i)).length) 2 218 ((cutL us (atI us.length i)).flatMap letV), osl a_4 c_5 ((bs ++ [(us.getD (atI us.length i) default)]).length) 2 218 ((bs ++ [(us.getD (atI us.length i) default)]).flatMap letV), famb ((cutL us (atI us.length i)) ++ (bs ++ [(us.getD (atI us.length i) default)]))]) (v := .bool (decide (0 < us.length))) (.inr rfl) (.p .h (.p .h (.p .h (.w (.t .h) (famb_sub (dl_sub (atI_lt i (by omega)))) .nil)))) Try.results108 rfl ?_
      exact fun w' hs => ⟨((ua_6, uc_7), (a_4, c_5)), (congrArg (fun b : Bool => Ending.returned (.bool b)) (show _ = decide (0 < us.length) from (by first | exact (decide_eq_true (by omega)).symm | rfl))), by rw [show (dlU us i) = (cutL us (atI us.length i)) from (by unfold dlU; rw [if_neg (by omega)])]; rw [show (dlB us bs i) = (bs ++ [(us.getD (atI us.length i) default)]) from (by unfold dlB; rw [if_neg (by omega)])]; exact hs⟩
    · -- number 8 first
      refine opS_0 rfl rfl ?_
      refine OpE.y (v := .slice ua us.length uc) (y_load1 rfl Try.isAgg213 (own1 .h rfl)) ?_
      refine ⟨.inr (.nil), ?_⟩
      refine anyS_all (rs := [4, 10]) (by kernel_rfl) (by simp) ?_
      intro i hi8; simp only [List.mem_cons, List.not_mem_nil, or_false] at hi8; rcases hi8 with rfl | rfl
      · -- number 4 first
        refine opS_0 rfl rfl ?_
        refine OpE.y (v := .slice ba bs.length bc) (y_load1 rfl Try.isAgg213 (own1 .h rfl)) ?_
        refine ⟨.inr (.nil), ?_⟩
        refine anyS_all (rs := [10]) (by kernel_rfl) (by simp) ?_
        intro i hi; obtain rfl := List.mem_singleton.1 hi; clear hi
        refine opS_0 rfl rfl ?_
        refine OpE.y (v := .pointer (some ⟨aB ua, aO ua + (atI us.length i) * 2, none⟩)) (y_idx (o := (atI us.length i) * 2) rfl rfl Try.underlying213 Try.sizeOf218 (oslR (.t .h)) (fl_len letV_len _) (by decide) (by omega) (by omega) (by omega)) ?_
        refine ⟨.inr (.nil), ?_⟩
        refine anyS_all (rs := [11]) (by kernel_rfl) (by simp) ?_
        intro i hi; obtain rfl := List.mem_singleton.1 hi; clear hi
        refine opS_0 rfl rfl ?_
        refine OpE.y (v := .agg #[.int .i64 ((us.getD (atI us.length i) default).to), .slice ((us.getD (atI us.length i) default).a) ((us.getD (atI us.length i) default).n) ((us.getD (atI us.length i) default).c)]) (y_loadN (vs := letV (us.getD (atI us.length i) default)) rfl Try.isAgg218 Try.sizeOf218 (rdN (oslR (.t .h)) (fl_getN letV_len us (atI us.length i) (by first | omega | (simp only [List.length_set, List.length_take, List.length_drop]; done) | (simp only [List.length_set, List.length_take, List.length_drop]; omega))))) ?_
        refine ⟨.inr (.nil), ?_⟩
        refine anyS_all (rs := [12]) (by kernel_rfl) (by simp) ?_
        intro i hi; obtain rfl := List.mem_singleton.1 hi; clear hi
        refine opS_0 rfl rfl ?_
        refine e_bsliceL (e := 218) (m := [(0, .agg #[.int .i64 ((us.getD (atI us.length i) default).to), .slice ((us.getD (atI us.length i) default).a) ((us.getD (atI us.length i) default).n) ((us.getD (atI us.length i) default).c)])]) (l := [.int .i64 ((us.getD (atI us.length i) default).to), .slice ((us.getD (atI us.length i) default).a) ((us.getD (atI us.length i) default).n) ((us.getD (atI us.length i) default).c)]) (evc rfl evn) (fun w => by kernel_rfl) ?_
        intro b_9
        refine ⟨.inr (.nil), ?_⟩
        refine anyS_all (rs := [13]) (by kernel_rfl) (by simp) ?_
        intro i hi; obtain rfl := List.mem_singleton.1 hi; clear hi
        refine opS_0 rfl rfl ?_
        refine e_appendL (enc := letV) (xs := (bs : List Let)) (ns := ([(us.getD (atI us.length i) default)] : List Let)) (zs := (bs ++ [(us.getD (atI us.length i) default)])) (bytes := 32) letV_len letV_one Try.underlying213 (i := Try.t218) rfl rfl rfl rfl rfl (by decide) rfl rfl (by first | rfl | omega) (by first | rfl | omega) (.t (.t (.t .h))) (fun w hs => celR .h w hs) (by first | rfl | simp) (by (try simp only [List.length_append, List.length_cons, List.length_nil] at *); omega) (by (try simp only [List.length_append, List.length_cons, List.length_nil] at *); omega) ?_
        intro a_10 c_11
        refine ⟨.inr (.nil), ?_⟩
        refine anyS_take (i := 14) rfl (by kernel_rfl) (by kernel_rfl) (by kernel_rfl) (by kernel_rfl) (Yq.of (v := .pointer (some ⟨wb, 0, none⟩)) (y_nilP rfl) rfl) (.nil) ?_
        refine anyS_take (i := 15) rfl (by kernel_rfl) (by kernel_rfl) (by kernel_rfl) (by kernel_rfl) (Yq.of (v := .pointer (some ⟨wb, 1, none⟩)) (y_fieldAddr (o' := 1) rfl Try.underlying215 rfl Try.sizeOf213 (by decide) rfl) rfl) (.nil) ?_
        refine anyS_all (rs := [16]) (by kernel_rfl) (by simp) ?_
        intro i hi; obtain rfl := List.mem_singleton.1 hi; clear hi
        refine opS_0 rfl rfl ?_
        refine e_store (vs := [.slice a_10 ((bs ++ [(us.getD (atI us.length i) default)]).length) c_11]) (l' := [.slice ua us.length uc, .slice a_10 ((bs ++ [(us.getD (atI us.length i) default)]).length) c_11]) rfl rfl rfl rfl Try.sizeOf213 (.t (.t .h)) (Nat.le_of_ble_eq_true rfl) rfl ?_
        refine ⟨.inr (.nil), ?_⟩
        refine anyS_done (by kernel_rfl) ?_
        refine thenS_n ?_
        refine wpS_region ?_
        refine s_y (v := .pointer (some ⟨wb, 0, none⟩)) (y_move rfl) rfl ?_
        refine s_y (v := .int .i64 ((((atI us.length i) : Nat) : Int))) (y_move rfl) rfl ?_
        refine s_e rfl ?_
        refine e_call (f := 189) (args := #[.pointer (some ⟨wb, 0, none⟩), .int .i64 ((((atI us.length i) : Nat) : Int))]) (X := Option Addr × Nat) (A := [cel wb 215 [.slice ua us.length uc, .slice a_10 ((bs ++ [(us.getD (atI us.length i) default)]).length) c_11], osl ua uc us.length 2 218 (us.flatMap letV)]) (M := [osl a_10 c_11 ((bs ++ [(us.getD (atI us.length i) default)]).length) 2 218 ((bs ++ [(us.getD (atI us.length i) default)]).flatMap letV), cel b_9 218 [.int .i64 ((us.getD (atI us.length i) default).to), .slice ((us.getD (atI us.length i) default).a) ((us.getD (atI us.length i) default).n) ((us.getD (atI us.length i) default).c)], famb (us ++ bs)]) (V := fun _ => .tuple #[]) (A' := fun x => [cel wb 215 [.slice x.1 ((cutL us (atI us.length i)).length) x.2, .slice a_10 ((bs ++ [(us.getD (atI us.length i) default)]).length) c_11], osl x.1 x.2 ((cutL us (atI us.length i)).length) 2 218 ((cutL us (atI us.length i)).flatMap letV)]) (C := fun _ => True) Try.call189 (ev2 rfl rfl) (.p .h (.p (.t (.t .h)) (.p .h (.p .h (.p .h .nil))))) (fun w hs => (dropI_c wb ua uc a_10 ((bs ++ [(us.getD (atI us.length i) default)]).length) c_11 us (atI us.length i) w (by omega) (by omega) (SH.lendW hs)).mono (fun e w2 hx => hx.elim (fun x hx => ⟨x, hx.1, hx.2, trivial⟩))) ?_
        rintro ⟨ua_12, uc_13⟩ -
        refine wpL_nil ?_
        refine thenS_n ?_
        refine wpS_seq ?_
        refine wpS_region ?_
        refine s_y (v := .bool (decide (0 < us.length))) (y_move rfl) rfl ?_
        refine s_y (v := .bool (decide (0 < us.length))) (y_assign rfl) rfl ?_
        refine wpL_nil ?_
        refine thenS_n ?_
        refine wpS_ret ?_
        refine fin1 (M := [cel wb 215 [.slice ua_12 ((cutL us (atI us.length i)).length) uc_13, .slice a_10 ((bs ++ [(us.getD (atI us.length i) default)]).length) c_11], osl ua_12 uc_13 ((cutL us (atI us.length i)).length) 2 218 ((cutL us (atI us.length i)).flatMap letV), osl a_10 c_11 ((bs ++ [(us.getD (atI us.length i) default)]).length) 2 218 ((bs ++ [(us.getD (atI us.length i) default)]).flatMap letV), famb ((cutL us (atI us.length i)) ++ (bs ++ [(us.getD (atI us.length i) default)]))]) (v := .bool (decide (0 < us.length))) (.inr rfl) (.p .h (.p .h (.p .h (.w (.t .h) (famb_sub (dl_sub (atI_lt i (by omega)))) .nil)))) Try.results108 rfl ?_
        exact fun w' hs => ⟨((ua_12, uc_13), (a_10, c_11)), (congrArg (fun b : Bool => Ending.returned (.bool b)) (show _ = decide (0 < us.length) from (by first | exact (decide_eq_true (by omega)).symm | rfl))), by rw [show (dlU us i) = (cutL us (atI us.length i)) from (by unfold dlU; rw [if_neg (by omega)])]; rw [show (dlB us bs i) = (bs ++ [(us.getD (atI us.length i) default)]) from (by unfold dlB; rw [if_neg (by omega)])]; exact hs⟩
      · -- number 10 first
        refine opS_0 rfl rfl ?_
        refine OpE.y (v := .pointer (some ⟨aB ua, aO ua + (atI us.length i) * 2, none⟩)) (y_idx (o := (atI us.length i) * 2) rfl rfl Try.underlying213 Try.sizeOf218 (oslR (.t .h)) (fl_len letV_len _) (by decide) (by omega) (by omega) (by omega)) ?_
        refine ⟨.inr (.nil), ?_⟩
        refine anyS_all (rs := [4, 11]) (by kernel_rfl) (by simp) ?_
        intro i hi14; simp only [List.mem_cons, List.not_mem_nil, or_false] at hi14; rcases hi14 with rfl | rfl
        · -- number 4 first
          refine opS_0 rfl rfl ?_
          refine OpE.y (v := .slice ba bs.length bc) (y_load1 rfl Try.isAgg213 (own1 .h rfl)) ?_
          refine ⟨.inr (.nil), ?_⟩
          refine anyS_all (rs := [11]) (by kernel_rfl) (by simp) ?_
          intro i hi; obtain rfl := List.mem_singleton.1 hi; clear hi
          refine opS_0 rfl rfl ?_
          refine OpE.y (v := .agg #[.int .i64 ((us.getD (atI us.length i) default).to), .slice ((us.getD (atI us.length i) default).a) ((us.getD (atI us.length i) default).n) ((us.getD (atI us.length i) default).c)]) (y_loadN (vs := letV (us.getD (atI us.length i) default)) rfl Try.isAgg218 Try.sizeOf218 (rdN (oslR (.t .h)) (fl_getN letV_len us (atI us.length i) (by first | omega | (simp only [List.length_set, List.length_take, List.length_drop]; done) | (simp only [List.length_set, List.length_take, List.length_drop]; omega))))) ?_
          refine ⟨.inr (.nil), ?_⟩
          refine anyS_all (rs := [12]) (by kernel_rfl) (by simp) ?_
          intro i hi; obtain rfl := List.mem_singleton.1 hi; clear hi
          refine opS_0 rfl rfl ?_
          refine e_bsliceL (e := 218) (m := [(0, .agg #[.int .i64 ((us.getD (atI us.length i) default).to), .slice ((us.getD (atI us.length i) default).a) ((us.getD (atI us.length i) default).n) ((us.getD (atI us.length i) default).c)])]) (l := [.int .i64 ((us.getD (atI us.length i) default).to), .slice ((us.getD (atI us.length i) default).a) ((us.getD (atI us.length i) default).n) ((us.getD (atI us.length i) default).c)]) (evc rfl evn) (fun w => by kernel_rfl) ?_
          intro b_15
          refine ⟨.inr (.nil), ?_⟩
          refine anyS_all (rs := [13]) (by kernel_rfl) (by simp) ?_
          intro i hi; obtain rfl := List.mem_singleton.1 hi; clear hi
          refine opS_0 rfl rfl ?_
          refine e_appendL (enc := letV) (xs := (bs : List Let)) (ns := ([(us.getD (atI us.length i) default)] : List Let)) (zs := (bs ++ [(us.getD (atI us.length i) default)])) (bytes := 32) letV_len letV_one Try.underlying213 (i := Try.t218) rfl rfl rfl rfl rfl (by decide) rfl rfl (by first | rfl | omega) (by first | rfl | omega) (.t (.t (.t .h))) (fun w hs => celR .h w hs) (by first | rfl | simp) (by (try simp only [List.length_append, List.length_cons, List.length_nil] at *); omega) (by (try simp only [List.length_append, List.length_cons, List.length_nil] at *); omega) ?_
          intro a_16 c_17
          refine ⟨.inr (.nil), ?_⟩
          refine anyS_take (i := 14) rfl (by kernel_rfl) (by kernel_rfl) (by kernel_rfl) (by kernel_rfl) (Yq.of (v := .pointer (some ⟨wb, 0, none⟩)) (y_nilP rfl) rfl) (.nil) ?_
          refine anyS_take (i := 15) rfl (by kernel_rfl) (by kernel_rfl) (by kernel_rfl) (by kernel_rfl) (Yq.of (v := .pointer (some ⟨wb, 1, none⟩)) (y_fieldAddr (o' := 1) rfl Try.underlying215 rfl Try.sizeOf213 (by decide) rfl) rfl) (.nil) ?_
          refine anyS_all (rs := [16]) (by kernel_rfl) (by simp) ?_
          intro i hi; obtain rfl := List.mem_singleton.1 hi; clear hi
          refine opS_0 rfl rfl ?_
          refine e_store (vs := [.slice a_16 ((bs ++ [(us.getD (atI us.length i) default)]).length) c_17]) (l' := [.slice ua us.length uc, .slice a_16 ((bs ++ [(us.getD (atI us.length i) default)]).length) c_17]) rfl rfl rfl rfl Try.sizeOf213 (.t (.t .h)) (Nat.le_of_ble_eq_true rfl) rfl ?_
          refine ⟨.inr (.nil), ?_⟩
          refine anyS_done (by kernel_rfl) ?_
          refine thenS_n ?_
          refine wpS_region ?_
          refine s_y (v := .pointer (some ⟨wb, 0, none⟩)) (y_move rfl) rfl ?_
          refine s_y (v := .int .i64 ((((atI us.length i) : Nat) : Int))) (y_move rfl) rfl ?_
          refine s_e rfl ?_
          refine e_call (f := 189) (args := #[.pointer (some ⟨wb, 0, none⟩), .int .i64 ((((atI us.length i) : Nat) : Int))]) (X := Option Addr × Nat) (A := [cel wb 215 [.slice ua us.length uc, .slice a_16 ((bs ++ [(us.getD (atI us.length i) default)]).length) c_17], osl ua uc us.length 2 218 (us.flatMap letV)]) (M := [osl a_16 c_17 ((bs ++ [(us.getD (atI us.length i) default)]).length) 2 218 ((bs ++ [(us.getD (atI us.length i) default)]).flatMap letV), cel b_15 218 [.int .i64 ((us.getD (atI us.length i) default).to), .slice ((us.getD (atI us.length i) default).a) ((us.getD (atI us.length i) default).n) ((us.getD (atI us.length i) default).c)], famb (us ++ bs)]) (V := fun _ => .tuple #[]) (A' := fun x => [cel wb 215 [.slice x.1 ((cutL us (atI us.length i)).length) x.2, .slice a_16 ((bs ++ [(us.getD (atI us.length i) default)]).length) c_17], osl x.1 x.2 ((cutL us (atI us.length i)).length) 2 218 ((cutL us (atI us.length i)).flatMap letV)]) (C := fun _ => True) Try.call189 (ev2 rfl rfl) (.p .h (.p (.t (.t .h)) (.p .h (.p .h (.p .h .nil))))) (fun w hs => (dropI_c wb ua uc a_16 ((bs ++ [(us.getD (atI us.length i) default)]).length) c_17 us (atI us.length i) w (by omega) (by omega) (SH.lendW hs)).mono (fun e w2 hx => hx.elim (fun x hx => ⟨x, hx.1, hx.2, trivial⟩))) ?_
          rintro ⟨ua_18, uc_19⟩ -
          refine wpL_nil ?_
          refine thenS_n ?_
          refine wpS_seq ?_
          refine wpS_region ?_
          refine s_y (v := .bool (decide (0 < us.length))) (y_move rfl) rfl ?_
          refine s_y (v := .bool (decide (0 < us.length))) (y_assign rfl) rfl ?_
          refine wpL_nil ?_
          refine thenS_n ?_
          refine wpS_ret ?_
          refine fin1 (M := [cel wb 215 [.slice ua_18 ((cutL us (atI us.length i)).length) uc_19, .slice a_16 ((bs ++ [(us.getD (atI us.length i) default)]).length) c_17], osl ua_18 uc_19 ((cutL us (atI us.length i)).length) 2 218 ((cutL us (atI us.length i)).flatMap letV), osl a_16 c_17 ((bs ++ [(us.getD (atI us.length i) default)]).length) 2 218 ((bs ++ [(us.getD (atI us.length i) default)]).flatMap letV), famb ((cutL us (atI us.length i)) ++ (bs ++ [(us.getD (atI us.length i) default)]))]) (v := .bool (decide (0 < us.length))) (.inr rfl) (.p .h (.p .h (.p .h (.w (.t .h) (famb_sub (dl_sub (atI_lt i (by omega)))) .nil)))) Try.results108 rfl ?_
          exact fun w' hs => ⟨((ua_18, uc_19), (a_16, c_17)), (congrArg (fun b : Bool => Ending.returned (.bool b)) (show _ = decide (0 < us.length) from (by first | exact (decide_eq_true (by omega)).symm | rfl))), by rw [show (dlU us i) = (cutL us (atI us.length i)) from (by unfold dlU; rw [if_neg (by omega)])]; rw [show (dlB us bs i) = (bs ++ [(us.getD (atI us.length i) default)]) from (by unfold dlB; rw [if_neg (by omega)])]; exact hs⟩
        · -- number 11 first
          refine opS_0 rfl rfl ?_
          refine OpE.y (v := .agg #[.int .i64 ((us.getD (atI us.length i) default).to), .slice ((us.getD (atI us.length i) default).a) ((us.getD (atI us.length i) default).n) ((us.getD (atI us.length i) default).c)]) (y_loadN (vs := letV (us.getD (atI us.length i) default)) rfl Try.isAgg218 Try.sizeOf218 (rdN (oslR (.t .h)) (fl_getN letV_len us (atI us.length i) (by first | omega | (simp only [List.length_set, List.length_take, List.length_drop]; done) | (simp only [List.length_set, List.length_take, List.length_drop]; omega))))) ?_
          refine ⟨.inr (.nil), ?_⟩
          refine anyS_all (rs := [4, 12]) (by kernel_rfl) (by simp) ?_
          intro i hi20; simp only [List.mem_cons, List.not_mem_nil, or_false] at hi20; rcases hi20 with rfl | rfl
          · -- number 4 first
            refine opS_0 rfl rfl ?_
            refine OpE.y (v := .slice ba bs.length bc) (y_load1 rfl Try.isAgg213 (own1 .h rfl)) ?_
            refine ⟨.inr (.nil), ?_⟩
            refine anyS_all (rs := [12]) (by kernel_rfl) (by simp) ?_
            intro i hi; obtain rfl := List.mem_singleton.1 hi; clear hi
            refine opS_0 rfl rfl ?_
            refine e_bsliceL (e := 218) (m := [(0, .agg #[.int .i64 ((us.getD (atI us.length i) default).to), .slice ((us.getD (atI us.length i) default).a) ((us.getD (atI us.length i) default).n) ((us.getD (atI us.length i) default).c)])]) (l := [.int .i64 ((us.getD (atI us.length i) default).to), .slice ((us.getD (atI us.length i) default).a) ((us.getD (atI us.length i) default).n) ((us.getD (atI us.length i) default).c)]) (evc rfl evn) (fun w => by kernel_rfl) ?_
            intro b_21
            refine ⟨.inr (.nil), ?_⟩
            refine anyS_all (rs := [13]) (by kernel_rfl) (by simp) ?_
            intro i hi; obtain rfl := List.mem_singleton.1 hi; clear hi
            refine opS_0 rfl rfl ?_
            refine e_appendL (enc := letV) (xs := (bs : List Let)) (ns := ([(us.getD (atI us.length i) default)] : List Let)) (zs := (bs ++ [(us.getD (atI us.length i) default)])) (bytes := 32) letV_len letV_one Try.underlying213 (i := Try.t218) rfl rfl rfl rfl rfl (by decide) rfl rfl (by first | rfl | omega) (by first | rfl | omega) (.t (.t (.t .h))) (fun w hs => celR .h w hs) (by first | rfl | simp) (by (try simp only [List.length_append, List.length_cons, List.length_nil] at *); omega) (by (try simp only [List.length_append, List.length_cons, List.length_nil] at *); omega) ?_
            intro a_22 c_23
            refine ⟨.inr (.nil), ?_⟩
            refine anyS_take (i := 14) rfl (by kernel_rfl) (by kernel_rfl) (by kernel_rfl) (by kernel_rfl) (Yq.of (v := .pointer (some ⟨wb, 0, none⟩)) (y_nilP rfl) rfl) (.nil) ?_
            refine anyS_take (i := 15) rfl (by kernel_rfl) (by kernel_rfl) (by kernel_rfl) (by kernel_rfl) (Yq.of (v := .pointer (some ⟨wb, 1, none⟩)) (y_fieldAddr (o' := 1) rfl Try.underlying215 rfl Try.sizeOf213 (by decide) rfl) rfl) (.nil) ?_
            refine anyS_all (rs := [16]) (by kernel_rfl) (by simp) ?_
            intro i hi; obtain rfl := List.mem_singleton.1 hi; clear hi
            refine opS_0 rfl rfl ?_
            refine e_store (vs := [.slice a_22 ((bs ++ [(us.getD (atI us.length i) default)]).length) c_23]) (l' := [.slice ua us.length uc, .slice a_22 ((bs ++ [(us.getD (atI us.length i) default)]).length) c_23]) rfl rfl rfl rfl Try.sizeOf213 (.t (.t .h)) (Nat.le_of_ble_eq_true rfl) rfl ?_
            refine ⟨.inr (.nil), ?_⟩
            refine anyS_done (by kernel_rfl) ?_
            refine thenS_n ?_
            refine wpS_region ?_
            refine s_y (v := .pointer (some ⟨wb, 0, none⟩)) (y_move rfl) rfl ?_
            refine s_y (v := .int .i64 ((((atI us.length i) : Nat) : Int))) (y_move rfl) rfl ?_
            refine s_e rfl ?_
            refine e_call (f := 189) (args := #[.pointer (some ⟨wb, 0, none⟩), .int .i64 ((((atI us.length i) : Nat) : Int))]) (X := Option Addr × Nat) (A := [cel wb 215 [.slice ua us.length uc, .slice a_22 ((bs ++ [(us.getD (atI us.length i) default)]).length) c_23], osl ua uc us.length 2 218 (us.flatMap letV)]) (M := [osl a_22 c_23 ((bs ++ [(us.getD (atI us.length i) default)]).length) 2 218 ((bs ++ [(us.getD (atI us.length i) default)]).flatMap letV), cel b_21 218 [.int .i64 ((us.getD (atI us.length i) default).to), .slice ((us.getD (atI us.length i) default).a) ((us.getD (atI us.length i) default).n) ((us.getD (atI us.length i) default).c)], famb (us ++ bs)]) (V := fun _ => .tuple #[]) (A' := fun x => [cel wb 215 [.slice x.1 ((cutL us (atI us.length i)).length) x.2, .slice a_22 ((bs ++ [(us.getD (atI us.length i) default)]).length) c_23], osl x.1 x.2 ((cutL us (atI us.length i)).length) 2 218 ((cutL us (atI us.length i)).flatMap letV)]) (C := fun _ => True) Try.call189 (ev2 rfl rfl) (.p .h (.p (.t (.t .h)) (.p .h (.p .h (.p .h .nil))))) (fun w hs => (dropI_c wb ua uc a_22 ((bs ++ [(us.getD (atI us.length i) default)]).length) c_23 us (atI us.length i) w (by omega) (by omega) (SH.lendW hs)).mono (fun e w2 hx => hx.elim (fun x hx => ⟨x, hx.1, hx.2, trivial⟩))) ?_
            rintro ⟨ua_24, uc_25⟩ -
            refine wpL_nil ?_
            refine thenS_n ?_
            refine wpS_seq ?_
            refine wpS_region ?_
            refine s_y (v := .bool (decide (0 < us.length))) (y_move rfl) rfl ?_
            refine s_y (v := .bool (decide (0 < us.length))) (y_assign rfl) rfl ?_
            refine wpL_nil ?_
            refine thenS_n ?_
            refine wpS_ret ?_
            refine fin1 (M := [cel wb 215 [.slice ua_24 ((cutL us (atI us.length i)).length) uc_25, .slice a_22 ((bs ++ [(us.getD (atI us.length i) default)]).length) c_23], osl ua_24 uc_25 ((cutL us (atI us.length i)).length) 2 218 ((cutL us (atI us.length i)).flatMap letV), osl a_22 c_23 ((bs ++ [(us.getD (atI us.length i) default)]).length) 2 218 ((bs ++ [(us.getD (atI us.length i) default)]).flatMap letV), famb ((cutL us (atI us.length i)) ++ (bs ++ [(us.getD (atI us.length i) default)]))]) (v := .bool (decide (0 < us.length))) (.inr rfl) (.p .h (.p .h (.p .h (.w (.t .h) (famb_sub (dl_sub (atI_lt i (by omega)))) .nil)))) Try.results108 rfl ?_
            exact fun w' hs => ⟨((ua_24, uc_25), (a_22, c_23)), (congrArg (fun b : Bool => Ending.returned (.bool b)) (show _ = decide (0 < us.length) from (by first | exact (decide_eq_true (by omega)).symm | rfl))), by rw [show (dlU us i) = (cutL us (atI us.length i)) from (by unfold dlU; rw [if_neg (by omega)])]; rw [show (dlB us bs i) = (bs ++ [(us.getD (atI us.length i) default)]) from (by unfold dlB; rw [if_neg (by omega)])]; exact hs⟩
          · -- number 12 first
            refine opS_0 rfl rfl ?_
            refine e_bsliceL (e := 218) (m := [(0, .agg #[.int .i64 ((us.getD (atI us.length i) default).to), .slice ((us.getD (atI us.length i) default).a) ((us.getD (atI us.length i) default).n) ((us.getD (atI us.length i) default).c)])]) (l := [.int .i64 ((us.getD (atI us.length i) default).to), .slice ((us.getD (atI us.length i) default).a) ((us.getD (atI us.length i) default).n) ((us.getD (atI us.length i) default).c)]) (evc rfl evn) (fun w => by kernel_rfl) ?_
            intro b_26
            refine ⟨.inr (.nil), ?_⟩
            refine anyS_all (rs := [4]) (by kernel_rfl) (by simp) ?_
            intro i hi; obtain rfl := List.mem_singleton.1 hi; clear hi
            refine opS_0 rfl rfl ?_
            refine OpE.y (v := .slice ba bs.length bc) (y_load1 rfl Try.isAgg213 (own1 (.t .h) rfl)) ?_
            refine ⟨.inr (.nil), ?_⟩
            refine anyS_all (rs := [13]) (by kernel_rfl) (by simp) ?_
            intro i hi; obtain rfl := List.mem_singleton.1 hi; clear hi
            refine opS_0 rfl rfl ?_
            refine e_appendL (enc := letV) (xs := (bs : List Let)) (ns := ([(us.getD (atI us.length i) default)] : List Let)) (zs := (bs ++ [(us.getD (atI us.length i) default)])) (bytes := 32) letV_len letV_one Try.underlying213 (i := Try.t218) rfl rfl rfl rfl rfl (by decide) rfl rfl (by first | rfl | omega) (by first | rfl | omega) (.t (.t (.t .h))) (fun w hs => celR .h w hs) (by first | rfl | simp) (by (try simp only [List.length_append, List.length_cons, List.length_nil] at *); omega) (by (try simp only [List.length_append, List.length_cons, List.length_nil] at *); omega) ?_
            intro a_27 c_28
            refine ⟨.inr (.nil), ?_⟩
            refine anyS_take (i := 14) rfl (by kernel_rfl) (by kernel_rfl) (by kernel_rfl) (by kernel_rfl) (Yq.of (v := .pointer (some ⟨wb, 0, none⟩)) (y_nilP rfl) rfl) (.nil) ?_
            refine anyS_take (i := 15) rfl (by kernel_rfl) (by kernel_rfl) (by kernel_rfl) (by kernel_rfl) (Yq.of (v := .pointer (some ⟨wb, 1, none⟩)) (y_fieldAddr (o' := 1) rfl Try.underlying215 rfl Try.sizeOf213 (by decide) rfl) rfl) (.nil) ?_
            refine anyS_all (rs := [16]) (by kernel_rfl) (by simp) ?_
            intro i hi; obtain rfl := List.mem_singleton.1 hi; clear hi
            refine opS_0 rfl rfl ?_
            refine e_store (vs := [.slice a_27 ((bs ++ [(us.getD (atI us.length i) default)]).length) c_28]) (l' := [.slice ua us.length uc, .slice a_27 ((bs ++ [(us.getD (atI us.length i) default)]).length) c_28]) rfl rfl rfl rfl Try.sizeOf213 (.t (.t .h)) (Nat.le_of_ble_eq_true rfl) rfl ?_
            refine ⟨.inr (.nil), ?_⟩
            refine anyS_done (by kernel_rfl) ?_
            refine thenS_n ?_
            refine wpS_region ?_
            refine s_y (v := .pointer (some ⟨wb, 0, none⟩)) (y_move rfl) rfl ?_
            refine s_y (v := .int .i64 ((((atI us.length i) : Nat) : Int))) (y_move rfl) rfl ?_
            refine s_e rfl ?_
            refine e_call (f := 189) (args := #[.pointer (some ⟨wb, 0, none⟩), .int .i64 ((((atI us.length i) : Nat) : Int))]) (X := Option Addr × Nat) (A := [cel wb 215 [.slice ua us.length uc, .slice a_27 ((bs ++ [(us.getD (atI us.length i) default)]).length) c_28], osl ua uc us.length 2 218 (us.flatMap letV)]) (M := [osl a_27 c_28 ((bs ++ [(us.getD (atI us.length i) default)]).length) 2 218 ((bs ++ [(us.getD (atI us.length i) default)]).flatMap letV), cel b_26 218 [.int .i64 ((us.getD (atI us.length i) default).to), .slice ((us.getD (atI us.length i) default).a) ((us.getD (atI us.length i) default).n) ((us.getD (atI us.length i) default).c)], famb (us ++ bs)]) (V := fun _ => .tuple #[]) (A' := fun x => [cel wb 215 [.slice x.1 ((cutL us (atI us.length i)).length) x.2, .slice a_27 ((bs ++ [(us.getD (atI us.length i) default)]).length) c_28], osl x.1 x.2 ((cutL us (atI us.length i)).length) 2 218 ((cutL us (atI us.length i)).flatMap letV)]) (C := fun _ => True) Try.call189 (ev2 rfl rfl) (.p .h (.p (.t (.t .h)) (.p .h (.p .h (.p .h .nil))))) (fun w hs => (dropI_c wb ua uc a_27 ((bs ++ [(us.getD (atI us.length i) default)]).length) c_28 us (atI us.length i) w (by omega) (by omega) (SH.lendW hs)).mono (fun e w2 hx => hx.elim (fun x hx => ⟨x, hx.1, hx.2, trivial⟩))) ?_
            rintro ⟨ua_29, uc_30⟩ -
            refine wpL_nil ?_
            refine thenS_n ?_
            refine wpS_seq ?_
            refine wpS_region ?_
            refine s_y (v := .bool (decide (0 < us.length))) (y_move rfl) rfl ?_
            refine s_y (v := .bool (decide (0 < us.length))) (y_assign rfl) rfl ?_
            refine wpL_nil ?_
            refine thenS_n ?_
            refine wpS_ret ?_
            refine fin1 (M := [cel wb 215 [.slice ua_29 ((cutL us (atI us.length i)).length) uc_30, .slice a_27 ((bs ++ [(us.getD (atI us.length i) default)]).length) c_28], osl ua_29 uc_30 ((cutL us (atI us.length i)).length) 2 218 ((cutL us (atI us.length i)).flatMap letV), osl a_27 c_28 ((bs ++ [(us.getD (atI us.length i) default)]).length) 2 218 ((bs ++ [(us.getD (atI us.length i) default)]).flatMap letV), famb ((cutL us (atI us.length i)) ++ (bs ++ [(us.getD (atI us.length i) default)]))]) (v := .bool (decide (0 < us.length))) (.inr rfl) (.p .h (.p .h (.p .h (.w (.t .h) (famb_sub (dl_sub (atI_lt i (by omega)))) .nil)))) Try.results108 rfl ?_
            exact fun w' hs => ⟨((ua_29, uc_30), (a_27, c_28)), (congrArg (fun b : Bool => Ending.returned (.bool b)) (show _ = decide (0 < us.length) from (by first | exact (decide_eq_true (by omega)).symm | rfl))), by rw [show (dlU us i) = (cutL us (atI us.length i)) from (by unfold dlU; rw [if_neg (by omega)])]; rw [show (dlB us bs i) = (bs ++ [(us.getD (atI us.length i) default)]) from (by unfold dlB; rw [if_neg (by omega)])]; exact hs⟩
  · -- decide (0 < us.length) false
    have p1 := of_decide_eq_false b1
    refine wpS_skip ?_
    refine thenS_n ?_
    refine wpS_seq ?_
    refine wpS_region ?_
    refine s_y (v := .bool (decide (0 < us.length))) (y_move rfl) rfl ?_
    refine s_y (v := .bool (decide (0 < us.length))) (y_assign rfl) rfl ?_
    refine wpL_nil ?_
    refine thenS_n ?_
    refine wpS_ret ?_
    refine fin1 (M := [cel wb 215 [.slice ua us.length uc, .slice ba bs.length bc], osl ua uc us.length 2 218 (us.flatMap letV), osl ba bc bs.length 2 218 (bs.flatMap letV), famb (us ++ bs)]) (v := .bool (decide (0 < us.length))) (.inr rfl) (.p .h (.p .h (.p .h (.p .h .nil)))) Try.results108 rfl ?_
    exact fun w' hs => ⟨((ua, uc), (ba, bc)), (congrArg (fun b : Bool => Ending.returned (.bool b)) (show _ = decide (0 < us.length) from (by first | exact (decide_eq_false (by omega)).symm | rfl))), by rw [show (dlU us i) = us from (by unfold dlU; rw [if_pos (by omega)])]; rw [show (dlB us bs i) = bs from (by unfold dlB; rw [if_pos (by omega)])]; exact hs⟩

theorem drop0_c (i : Int) (w : World) : Pure Try.prog 107 #[.pointer none, .int .i64 i] w (.bool false) := by
  refine calls_S (n := 18) (σ0 := (upd (upd fr0 0 (.pointer none)) 1 (.int .i64 i))) (D := []) (A := []) Try.func107 rfl Try.ntmps107 rfl (a2_fr _ _) (SH.start w) ?_
  refine wpS_seq ?_
  refine wpS_region ?_
  refine s_y (v := .bool false) (y_assign rfl) rfl ?_
  refine wpL_nil ?_
  refine thenS_n ?_
  refine wpS_seq ?_
  refine wpS_region ?_
  refine s_y (v := .pointer none) (y_move rfl) rfl ?_
  refine s_y (v := .int .i64 i) (y_move rfl) rfl ?_
  refine s_y (v := .tuple #[.int .i64 0, .bool false]) (y_call (args := #[.pointer none, .int .i64 i]) (v := .tuple #[.int .i64 0, .bool false]) Try.call188 (ev2 rfl rfl) (fun w hs => at0_c i w)) rfl ?_
  refine s_y (v := .tuple #[.int .i64 0, .bool false]) (y_move rfl) rfl ?_
  refine s_y (v := .int .i64 0) (y_extract (v := .int .i64 0) rfl rfl) rfl ?_
  refine s_y (v := .bool false) (y_extract (v := .bool false) rfl rfl) rfl ?_
  refine s_y (v := .int .i64 0) (y_assign rfl) rfl ?_
  refine s_y (v := .bool false) (y_assign rfl) rfl ?_
  refine wpL_nil ?_
  refine thenS_n ?_
  refine wpS_seq ?_
  refine wpS_seq ?_
  refine wpS_region ?_
  refine s_y (v := .bool false) (y_move rfl) rfl ?_
  refine wpL_nil ?_
  refine thenS_n ?_
  refine wpS_cond_f rfl ?_
  refine wpS_skip ?_
  refine thenS_n ?_
  refine wpS_seq ?_
  refine wpS_region ?_
  refine s_y (v := .bool false) (y_move rfl) rfl ?_
  refine s_y (v := .bool false) (y_assign rfl) rfl ?_
  refine wpL_nil ?_
  refine thenS_n ?_
  refine wpS_ret ?_
  refine fin1 (M := []) (v := .bool false) (.inr rfl) (.nil) Try.results107 rfl ?_
  exact fun w' hs => ⟨rfl, hs⟩

theorem drop_c (wb : Nat) (ua : Option Addr) (uc : Nat) (ba : Option Addr) (bc : Nat) (us bs : List Let) (i : Int) (w : World) (hul : us.length ≤ 100000) (hbl : bs.length ≤ 100000) (hA : SH w (([cel wb 215 [.slice ua us.length uc, .slice ba bs.length bc], osl ua uc us.length 2 218 (us.flatMap letV), osl ba bc bs.length 2 218 (bs.flatMap letV), famb (us ++ bs)] : List Res).flatMap Res.fp) [cel wb 215 [.slice ua us.length uc, .slice ba bs.length bc], osl ua uc us.length 2 218 (us.flatMap letV), osl ba bc bs.length 2 218 (bs.flatMap letV), famb (us ++ bs)] w) : Calls Try.prog 107 #[.pointer (some ⟨wb, 0, none⟩), .int .i64 i] w (fun e w' => ∃ x : (Option Addr × Nat) × (Option Addr × Nat), e = .returned (.bool (decide (0 < us.length))) ∧ SH w (([cel wb 215 [.slice ua us.length uc, .slice ba bs.length bc], osl ua uc us.length 2 218 (us.flatMap letV), osl ba bc bs.length 2 218 (bs.flatMap letV), famb (us ++ bs)] : List Res).flatMap Res.fp) [cel wb 215 [.slice x.1.1 ((dlU us i).length) x.1.2, .slice x.2.1 bs.length x.2.2], osl x.1.1 x.1.2 ((dlU us i).length) 2 218 ((dlU us i).flatMap letV), osl x.2.1 x.2.2 bs.length 2 218 (bs.flatMap letV), famb ((dlU us i) ++ bs)] w') := by
  refine calls_S (n := 18) (σ0 := (upd (upd fr0 0 (.pointer (some ⟨wb, 0, none⟩))) 1 (.int .i64 i))) (D := (([cel wb 215 [.slice ua us.length uc, .slice ba bs.length bc], osl ua uc us.length 2 218 (us.flatMap letV), osl ba bc bs.length 2 218 (bs.flatMap letV), famb (us ++ bs)] : List Res).flatMap Res.fp)) (A := [cel wb 215 [.slice ua us.length uc, .slice ba bs.length bc], osl ua uc us.length 2 218 (us.flatMap letV), osl ba bc bs.length 2 218 (bs.flatMap letV), famb (us ++ bs)]) Try.func107 rfl Try.ntmps107 rfl (a2_fr _ _) hA ?_
  have hlt : 0 < us.length → atI us.length i < us.length := fun h => atI_lt i h
  refine wpS_seq ?_
  refine wpS_region ?_
  refine s_y (v := .bool false) (y_assign rfl) rfl ?_
  refine wpL_nil ?_
  refine thenS_n ?_
  refine wpS_seq ?_
  refine wpS_region ?_
  refine s_y (v := .pointer (some ⟨wb, 0, none⟩)) (y_move rfl) rfl ?_
  refine s_y (v := .int .i64 i) (y_move rfl) rfl ?_
  refine s_y (v := .tuple #[.int .i64 ((((atI us.length i) : Nat) : Int)), .bool (decide (0 < us.length))]) (y_call (args := #[.pointer (some ⟨wb, 0, none⟩), .int .i64 i]) (v := .tuple #[.int .i64 ((((atI us.length i) : Nat) : Int)), .bool (decide (0 < us.length))]) Try.call188 (ev2 rfl rfl) (fun w hs => atW_c wb ua us.length uc i w (by omega) (own1 .h rfl w hs))) rfl ?_
  refine s_y (v := .tuple #[.int .i64 ((((atI us.length i) : Nat) : Int)), .bool (decide (0 < us.length))]) (y_move rfl) rfl ?_
  refine s_y (v := .int .i64 ((((atI us.length i) : Nat) : Int))) (y_extract (v := .int .i64 ((((atI us.length i) : Nat) : Int))) rfl rfl) rfl ?_
  refine s_y (v := .bool (decide (0 < us.length))) (y_extract (v := .bool (decide (0 < us.length))) rfl rfl) rfl ?_
  refine s_y (v := .int .i64 ((((atI us.length i) : Nat) : Int))) (y_assign rfl) rfl ?_
  refine s_y (v := .bool (decide (0 < us.length))) (y_assign rfl) rfl ?_
  refine wpL_nil ?_
  refine thenS_n ?_
  refine wpS_seq ?_
  refine wpS_seq ?_
  refine wpS_region ?_
  refine s_y (v := .bool (decide (0 < us.length))) (y_move rfl) rfl ?_
  refine wpL_nil ?_
  refine thenS_n ?_
  refine wpS_cond (t := decide (0 < us.length)) rfl (fun b1 => ?_) (fun b1 => ?_)
  · -- decide (0 < us.length) true
    have p1 := of_decide_eq_true b1
    refine wpS_region ?_
    refine s_y (v := .pointer (some ⟨wb, 0, none⟩)) (y_move rfl) rfl ?_
    refine s_y (v := .int .i64 ((((atI us.length i) : Nat) : Int))) (y_move rfl) rfl ?_
    refine s_e rfl ?_
    refine e_call (f := 189) (args := #[.pointer (some ⟨wb, 0, none⟩), .int .i64 ((((atI us.length i) : Nat) : Int))]) (X := Option Addr × Nat) (A := [cel wb 215 [.slice ua us.length uc, .slice ba bs.length bc], osl ua uc us.length 2 218 (us.flatMap letV)]) (M := [osl ba bc bs.length 2 218 (bs.flatMap letV), famb (us ++ bs)]) (V := fun _ => .tuple #[]) (A' := fun x => [cel wb 215 [.slice x.1 ((cutL us (atI us.length i)).length) x.2, .slice ba bs.length bc], osl x.1 x.2 ((cutL us (atI us.length i)).length) 2 218 ((cutL us (atI us.length i)).flatMap letV)]) (C := fun _ => True) Try.call189 (ev2 rfl rfl) (.p .h (.p .h (.p .h (.p .h .nil)))) (fun w hs => (dropI_c wb ua uc ba bs.length bc us (atI us.length i) w (by omega) (by omega) (SH.lendW hs)).mono (fun e w2 hx => hx.elim (fun x hx => ⟨x, hx.1, hx.2, trivial⟩))) ?_
    rintro ⟨ua_2, uc_3⟩ -
    refine wpL_nil ?_
    refine thenS_n ?_
    refine wpS_seq ?_
    refine wpS_region ?_
    refine s_y (v := .bool (decide (0 < us.length))) (y_move rfl) rfl ?_
    refine s_y (v := .bool (decide (0 < us.length))) (y_assign rfl) rfl ?_
    refine wpL_nil ?_
    refine thenS_n ?_
    refine wpS_ret ?_
    refine fin1 (M := [cel wb 215 [.slice ua_2 ((cutL us (atI us.length i)).length) uc_3, .slice ba bs.length bc], osl ua_2 uc_3 ((cutL us (atI us.length i)).length) 2 218 ((cutL us (atI us.length i)).flatMap letV), osl ba bc bs.length 2 218 (bs.flatMap letV), famb ((cutL us (atI us.length i)) ++ bs)]) (v := .bool (decide (0 < us.length))) (.inr rfl) (.p .h (.p .h (.p .h (.w .h (famb_sub dr_sub) .nil)))) Try.results107 rfl ?_
    exact fun w' hs => ⟨((ua_2, uc_3), (ba, bc)), (congrArg (fun b : Bool => Ending.returned (.bool b)) (show _ = decide (0 < us.length) from (by first | exact (decide_eq_true (by omega)).symm | rfl))), by rw [show (dlU us i) = (cutL us (atI us.length i)) from (by unfold dlU; rw [if_neg (by omega)])]; exact hs⟩
  · -- decide (0 < us.length) false
    have p1 := of_decide_eq_false b1
    refine wpS_skip ?_
    refine thenS_n ?_
    refine wpS_seq ?_
    refine wpS_region ?_
    refine s_y (v := .bool (decide (0 < us.length))) (y_move rfl) rfl ?_
    refine s_y (v := .bool (decide (0 < us.length))) (y_assign rfl) rfl ?_
    refine wpL_nil ?_
    refine thenS_n ?_
    refine wpS_ret ?_
    refine fin1 (M := [cel wb 215 [.slice ua us.length uc, .slice ba bs.length bc], osl ua uc us.length 2 218 (us.flatMap letV), osl ba bc bs.length 2 218 (bs.flatMap letV), famb (us ++ bs)]) (v := .bool (decide (0 < us.length))) (.inr rfl) (.p .h (.p .h (.p .h (.p .h .nil)))) Try.results107 rfl ?_
    exact fun w' hs => ⟨((ua, uc), (ba, bc)), (congrArg (fun b : Bool => Ending.returned (.bool b)) (show _ = decide (0 < us.length) from (by first | exact (decide_eq_false (by omega)).symm | rfl))), by rw [show (dlU us i) = us from (by unfold dlU; rw [if_pos (by omega)])]; exact hs⟩

theorem double0_c (i : Int) (w : World) : Pure Try.prog 105 #[.pointer none, .int .i64 i] w (.bool false) := by
  refine calls_S (n := 31) (σ0 := (upd (upd fr0 0 (.pointer none)) 1 (.int .i64 i))) (D := []) (A := []) Try.func105 rfl Try.ntmps105 rfl (a2_fr _ _) (SH.start w) ?_
  refine wpS_seq ?_
  refine wpS_region ?_
  refine s_y (v := .bool false) (y_assign rfl) rfl ?_
  refine wpL_nil ?_
  refine thenS_n ?_
  refine wpS_seq ?_
  refine wpS_region ?_
  refine s_y (v := .pointer none) (y_move rfl) rfl ?_
  refine s_y (v := .int .i64 i) (y_move rfl) rfl ?_
  refine s_y (v := .tuple #[.int .i64 0, .bool false]) (y_call (args := #[.pointer none, .int .i64 i]) (v := .tuple #[.int .i64 0, .bool false]) Try.call188 (ev2 rfl rfl) (fun w hs => at0_c i w)) rfl ?_
  refine s_y (v := .tuple #[.int .i64 0, .bool false]) (y_move rfl) rfl ?_
  refine s_y (v := .int .i64 0) (y_extract (v := .int .i64 0) rfl rfl) rfl ?_
  refine s_y (v := .bool false) (y_extract (v := .bool false) rfl rfl) rfl ?_
  refine s_y (v := .int .i64 0) (y_assign rfl) rfl ?_
  refine s_y (v := .bool false) (y_assign rfl) rfl ?_
  refine wpL_nil ?_
  refine thenS_n ?_
  refine wpS_seq ?_
  refine wpS_seq ?_
  refine wpS_region ?_
  refine s_y (v := .bool false) (y_move rfl) rfl ?_
  refine wpL_nil ?_
  refine thenS_n ?_
  refine wpS_cond_f rfl ?_
  refine wpS_skip ?_
  refine thenS_n ?_
  refine wpS_seq ?_
  refine wpS_region ?_
  refine s_y (v := .bool false) (y_move rfl) rfl ?_
  refine s_y (v := .bool false) (y_assign rfl) rfl ?_
  refine wpL_nil ?_
  refine thenS_n ?_
  refine wpS_ret ?_
  refine fin1 (M := []) (v := .bool false) (.inr rfl) (.nil) Try.results105 rfl ?_
  exact fun w' hs => ⟨rfl, hs⟩

theorem double_c (wb : Nat) (ua : Option Addr) (uc : Nat) (ba : Option Addr) (bc : Nat) (us bs : List Let) (i : Int) (w : World) (hul : us.length ≤ 100000) (hbl : bs.length ≤ 100000) (hA : SH w (([cel wb 215 [.slice ua us.length uc, .slice ba bs.length bc], osl ua uc us.length 2 218 (us.flatMap letV), osl ba bc bs.length 2 218 (bs.flatMap letV), famb (us ++ bs)] : List Res).flatMap Res.fp) [cel wb 215 [.slice ua us.length uc, .slice ba bs.length bc], osl ua uc us.length 2 218 (us.flatMap letV), osl ba bc bs.length 2 218 (bs.flatMap letV), famb (us ++ bs)] w) : Calls Try.prog 105 #[.pointer (some ⟨wb, 0, none⟩), .int .i64 i] w (fun e w' => ∃ x : (Option Addr × Nat) × (Option Addr × Nat), e = .returned (.bool (decide (0 < us.length))) ∧ SH w (([cel wb 215 [.slice ua us.length uc, .slice ba bs.length bc], osl ua uc us.length 2 218 (us.flatMap letV), osl ba bc bs.length 2 218 (bs.flatMap letV), famb (us ++ bs)] : List Res).flatMap Res.fp) [cel wb 215 [.slice x.1.1 ((dbU us i).length) x.1.2, .slice x.2.1 bs.length x.2.2], osl x.1.1 x.1.2 ((dbU us i).length) 2 218 ((dbU us i).flatMap letV), osl x.2.1 x.2.2 bs.length 2 218 (bs.flatMap letV), famb ((dbU us i) ++ bs)] w') := by
  refine calls_S (n := 31) (σ0 := (upd (upd fr0 0 (.pointer (some ⟨wb, 0, none⟩))) 1 (.int .i64 i))) (D := (([cel wb 215 [.slice ua us.length uc, .slice ba bs.length bc], osl ua uc us.length 2 218 (us.flatMap letV), osl ba bc bs.length 2 218 (bs.flatMap letV), famb (us ++ bs)] : List Res).flatMap Res.fp)) (A := [cel wb 215 [.slice ua us.length uc, .slice ba bs.length bc], osl ua uc us.length 2 218 (us.flatMap letV), osl ba bc bs.length 2 218 (bs.flatMap letV), famb (us ++ bs)]) Try.func105 rfl Try.ntmps105 rfl (a2_fr _ _) hA ?_
  have hlt : 0 < us.length → atI us.length i < us.length := fun h => atI_lt i h
  refine wpS_seq ?_
  refine wpS_region ?_
  refine s_y (v := .bool false) (y_assign rfl) rfl ?_
  refine wpL_nil ?_
  refine thenS_n ?_
  refine wpS_seq ?_
  refine wpS_region ?_
  refine s_y (v := .pointer (some ⟨wb, 0, none⟩)) (y_move rfl) rfl ?_
  refine s_y (v := .int .i64 i) (y_move rfl) rfl ?_
  refine s_y (v := .tuple #[.int .i64 ((((atI us.length i) : Nat) : Int)), .bool (decide (0 < us.length))]) (y_call (args := #[.pointer (some ⟨wb, 0, none⟩), .int .i64 i]) (v := .tuple #[.int .i64 ((((atI us.length i) : Nat) : Int)), .bool (decide (0 < us.length))]) Try.call188 (ev2 rfl rfl) (fun w hs => atW_c wb ua us.length uc i w (by omega) (own1 .h rfl w hs))) rfl ?_
  refine s_y (v := .tuple #[.int .i64 ((((atI us.length i) : Nat) : Int)), .bool (decide (0 < us.length))]) (y_move rfl) rfl ?_
  refine s_y (v := .int .i64 ((((atI us.length i) : Nat) : Int))) (y_extract (v := .int .i64 ((((atI us.length i) : Nat) : Int))) rfl rfl) rfl ?_
  refine s_y (v := .bool (decide (0 < us.length))) (y_extract (v := .bool (decide (0 < us.length))) rfl rfl) rfl ?_
  refine s_y (v := .int .i64 ((((atI us.length i) : Nat) : Int))) (y_assign rfl) rfl ?_
  refine s_y (v := .bool (decide (0 < us.length))) (y_assign rfl) rfl ?_
  refine wpL_nil ?_
  refine thenS_n ?_
  refine wpS_seq ?_
  refine wpS_seq ?_
  refine wpS_region ?_
  refine s_y (v := .bool (decide (0 < us.length))) (y_move rfl) rfl ?_
  refine wpL_nil ?_
  refine thenS_n ?_
  refine wpS_cond (t := decide (0 < us.length)) rfl (fun b1 => ?_) (fun b1 => ?_)
  · -- decide (0 < us.length) true
    have p1 := of_decide_eq_true b1
    refine wpS_anyL [] [] (by kernel_rfl) ?_
    refine anyS_take (i := 0) rfl (by kernel_rfl) (by kernel_rfl) (by kernel_rfl) (by kernel_rfl) (Yq.of (v := .pointer (some ⟨wb, 0, none⟩)) (y_move rfl) rfl) (.nil) ?_
    refine anyS_take (i := 1) rfl (by kernel_rfl) (by kernel_rfl) (by kernel_rfl) (by kernel_rfl) (Yq.of (v := .pointer (some ⟨wb, 0, none⟩)) (y_move rfl) rfl) (.nil) ?_
    refine anyS_take (i := 2) rfl (by kernel_rfl) (by kernel_rfl) (by kernel_rfl) (by kernel_rfl) (Yq.of (v := .pointer (some ⟨wb, 0, none⟩)) (y_nilP rfl) rfl) (.nil) ?_
    refine anyS_take (i := 3) rfl (by kernel_rfl) (by kernel_rfl) (by kernel_rfl) (by kernel_rfl) (Yq.of (v := .pointer (some ⟨wb, 0, none⟩)) (y_fieldAddr (o' := 0) rfl Try.underlying215 rfl Try.sizeOf213 (by decide) rfl) rfl) (.nil) ?_
    refine anyS_take (i := 5) rfl (by kernel_rfl) (by kernel_rfl) (by kernel_rfl) (by kernel_rfl) (Yq.of (v := .pointer (some ⟨wb, 0, none⟩)) (y_move rfl) rfl) (.nil) ?_
    refine anyS_take (i := 6) rfl (by kernel_rfl) (by kernel_rfl) (by kernel_rfl) (by kernel_rfl) (Yq.of (v := .pointer (some ⟨wb, 0, none⟩)) (y_nilP rfl) rfl) (.nil) ?_
    refine anyS_take (i := 7) rfl (by kernel_rfl) (by kernel_rfl) (by kernel_rfl) (by kernel_rfl) (Yq.of (v := .pointer (some ⟨wb, 0, none⟩)) (y_fieldAddr (o' := 0) rfl Try.underlying215 rfl Try.sizeOf213 (by decide) rfl) rfl) (.nil) ?_
    refine anyS_take (i := 9) rfl (by kernel_rfl) (by kernel_rfl) (by kernel_rfl) (by kernel_rfl) (Yq.of (v := .int .i64 ((((atI us.length i) : Nat) : Int))) (y_move rfl) rfl) (.nil) ?_
    refine anyS_all (rs := [4, 8]) (by kernel_rfl) (by simp) ?_
    intro i hi2; simp only [List.mem_cons, List.not_mem_nil, or_false] at hi2; rcases hi2 with rfl | rfl
    · -- number 4 first
      refine opS_0 rfl rfl ?_
      refine OpE.y (v := .slice ua us.length uc) (y_load1 rfl Try.isAgg213 (own1 .h rfl)) ?_
      refine ⟨.inr (.nil), ?_⟩
      refine anyS_all (rs := [8]) (by kernel_rfl) (by simp) ?_
      intro i hi; obtain rfl := List.mem_singleton.1 hi; clear hi
      refine opS_0 rfl rfl ?_
      refine OpE.y (v := .slice ua us.length uc) (y_load1 rfl Try.isAgg213 (own1 .h rfl)) ?_
      refine ⟨.inr (.nil), ?_⟩
      refine anyS_all (rs := [10]) (by kernel_rfl) (by simp) ?_
      intro i hi; obtain rfl := List.mem_singleton.1 hi; clear hi
      refine opS_0 rfl rfl ?_
      refine OpE.y (v := .pointer (some ⟨aB ua, aO ua + (atI us.length i) * 2, none⟩)) (y_idx (o := (atI us.length i) * 2) rfl rfl Try.underlying213 Try.sizeOf218 (oslR (.t .h)) (fl_len letV_len _) (by decide) (by omega) (by omega) (by omega)) ?_
      refine ⟨.inr (.nil), ?_⟩
      refine anyS_all (rs := [11]) (by kernel_rfl) (by simp) ?_
      intro i hi; obtain rfl := List.mem_singleton.1 hi; clear hi
      refine opS_0 rfl rfl ?_
      refine OpE.y (v := .agg #[.int .i64 ((us.getD (atI us.length i) default).to), .slice ((us.getD (atI us.length i) default).a) ((us.getD (atI us.length i) default).n) ((us.getD (atI us.length i) default).c)]) (y_loadN (vs := letV (us.getD (atI us.length i) default)) rfl Try.isAgg218 Try.sizeOf218 (rdN (oslR (.t .h)) (fl_getN letV_len us (atI us.length i) (by first | omega | (simp only [List.length_set, List.length_take, List.length_drop]; done) | (simp only [List.length_set, List.length_take, List.length_drop]; omega))))) ?_
      refine ⟨.inr (.nil), ?_⟩
      refine anyS_all (rs := [12]) (by kernel_rfl) (by simp) ?_
      intro i hi; obtain rfl := List.mem_singleton.1 hi; clear hi
      refine opS_0 rfl rfl ?_
      refine e_bsliceL (e := 218) (m := [(0, .agg #[.int .i64 ((us.getD (atI us.length i) default).to), .slice ((us.getD (atI us.length i) default).a) ((us.getD (atI us.length i) default).n) ((us.getD (atI us.length i) default).c)])]) (l := [.int .i64 ((us.getD (atI us.length i) default).to), .slice ((us.getD (atI us.length i) default).a) ((us.getD (atI us.length i) default).n) ((us.getD (atI us.length i) default).c)]) (evc rfl evn) (fun w => by kernel_rfl) ?_
      intro b_3
      refine ⟨.inr (.nil), ?_⟩
      refine anyS_all (rs := [13]) (by kernel_rfl) (by simp) ?_
      intro i hi; obtain rfl := List.mem_singleton.1 hi; clear hi
      refine opS_0 rfl rfl ?_
      refine e_appendL (enc := letV) (xs := (us : List Let)) (ns := ([(us.getD (atI us.length i) default)] : List Let)) (zs := (us ++ [(us.getD (atI us.length i) default)])) (bytes := 32) letV_len letV_one Try.underlying213 (i := Try.t218) rfl rfl rfl rfl rfl (by decide) rfl rfl (by first | rfl | omega) (by first | rfl | omega) (.t (.t .h)) (fun w hs => celR .h w hs) (by first | rfl | simp) (by (try simp only [List.length_append, List.length_cons, List.length_nil] at *); omega) (by (try simp only [List.length_append, List.length_cons, List.length_nil] at *); omega) ?_
      intro a_4 c_5
      refine ⟨.inr (.nil), ?_⟩
      refine anyS_take (i := 14) rfl (by kernel_rfl) (by kernel_rfl) (by kernel_rfl) (by kernel_rfl) (Yq.of (v := .pointer (some ⟨wb, 0, none⟩)) (y_nilP rfl) rfl) (.nil) ?_
      refine anyS_take (i := 15) rfl (by kernel_rfl) (by kernel_rfl) (by kernel_rfl) (by kernel_rfl) (Yq.of (v := .pointer (some ⟨wb, 0, none⟩)) (y_fieldAddr (o' := 0) rfl Try.underlying215 rfl Try.sizeOf213 (by decide) rfl) rfl) (.nil) ?_
      refine anyS_all (rs := [16]) (by kernel_rfl) (by simp) ?_
      intro i hi; obtain rfl := List.mem_singleton.1 hi; clear hi
      refine opS_0 rfl rfl ?_
      refine e_store (vs := [.slice a_4 ((us ++ [(us.getD (atI us.length i) default)]).length) c_5]) (l' := [.slice a_4 ((us ++ [(us.getD (atI us.length i) default)]).length) c_5, .slice ba bs.length bc]) rfl rfl rfl rfl Try.sizeOf213 (.t (.t .h)) (Nat.le_of_ble_eq_true rfl) rfl ?_
      refine ⟨.inr (.nil), ?_⟩
      refine anyS_done (by kernel_rfl) ?_
      refine thenS_n ?_
      refine wpS_seq ?_
      refine wpS_region ?_
      refine s_y (v := .bool (decide (0 < us.length))) (y_move rfl) rfl ?_
      refine s_y (v := .bool (decide (0 < us.length))) (y_assign rfl) rfl ?_
      refine wpL_nil ?_
      refine thenS_n ?_
      refine wpS_ret ?_
      refine fin1 (M := [cel wb 215 [.slice a_4 ((us ++ [(us.getD (atI us.length i) default)]).length) c_5, .slice ba bs.length bc], osl a_4 c_5 ((us ++ [(us.getD (atI us.length i) default)]).length) 2 218 ((us ++ [(us.getD (atI us.length i) default)]).flatMap letV), osl ba bc bs.length 2 218 (bs.flatMap letV), famb ((us ++ [(us.getD (atI us.length i) default)]) ++ bs)]) (v := .bool (decide (0 < us.length))) (.inr rfl) (.p .h (.p .h (.p (.t .h) (.w (.t .h) (famb_sub (db_sub (atI_lt i (by omega)))) .nil)))) Try.results105 rfl ?_
      exact fun w' hs => ⟨((a_4, c_5), (ba, bc)), (congrArg (fun b : Bool => Ending.returned (.bool b)) (show _ = decide (0 < us.length) from (by first | exact (decide_eq_true (by omega)).symm | rfl))), by rw [show (dbU us i) = (us ++ [(us.getD (atI us.length i) default)]) from (by unfold dbU; rw [if_neg (by omega)])]; exact hs⟩
    · -- number 8 first
      refine opS_0 rfl rfl ?_
      refine OpE.y (v := .slice ua us.length uc) (y_load1 rfl Try.isAgg213 (own1 .h rfl)) ?_
      refine ⟨.inr (.nil), ?_⟩
      refine anyS_all (rs := [4, 10]) (by kernel_rfl) (by simp) ?_
      intro i hi6; simp only [List.mem_cons, List.not_mem_nil, or_false] at hi6; rcases hi6 with rfl | rfl
      · -- number 4 first
        refine opS_0 rfl rfl ?_
        refine OpE.y (v := .slice ua us.length uc) (y_load1 rfl Try.isAgg213 (own1 .h rfl)) ?_
        refine ⟨.inr (.nil), ?_⟩
        refine anyS_all (rs := [10]) (by kernel_rfl) (by simp) ?_
        intro i hi; obtain rfl := List.mem_singleton.1 hi; clear hi
        refine opS_0 rfl rfl ?_
        refine OpE.y (v := .pointer (some ⟨aB ua, aO ua + (atI us.length i) * 2, none⟩)) (y_idx (o := (atI us.length i) * 2) rfl rfl Try.underlying213 Try.sizeOf218 (oslR (.t .h)) (fl_len letV_len _) (by decide) (by omega) (by omega) (by omega)) ?_
        refine ⟨.inr (.nil), ?_⟩
        refine anyS_all (rs := [11]) (by kernel_rfl) (by simp) ?_
        intro i hi; obtain rfl := List.mem_singleton.1 hi; clear hi
        refine opS_0 rfl rfl ?_
        refine OpE.y (v := .agg #[.int .i64 ((us.getD (atI us.length i) default).to), .slice ((us.getD (atI us.length i) default).a) ((us.getD (atI us.length i) default).n) ((us.getD (atI us.length i) default).c)]) (y_loadN (vs := letV (us.getD (atI us.length i) default)) rfl Try.isAgg218 Try.sizeOf218 (rdN (oslR (.t .h)) (fl_getN letV_len us (atI us.length i) (by first | omega | (simp only [List.length_set, List.length_take, List.length_drop]; done) | (simp only [List.length_set, List.length_take, List.length_drop]; omega))))) ?_
        refine ⟨.inr (.nil), ?_⟩
        refine anyS_all (rs := [12]) (by kernel_rfl) (by simp) ?_
        intro i hi; obtain rfl := List.mem_singleton.1 hi; clear hi
        refine opS_0 rfl rfl ?_
        refine e_bsliceL (e := 218) (m := [(0, .agg #[.int .i64 ((us.getD (atI us.length i) default).to), .slice ((us.getD (atI us.length i) default).a) ((us.getD (atI us.length i) default).n) ((us.getD (atI us.length i) default).c)])]) (l := [.int .i64 ((us.getD (atI us.length i) default).to), .slice ((us.getD (atI us.length i) default).a) ((us.getD (atI us.length i) default).n) ((us.getD (atI us.length i) default).c)]) (evc rfl evn) (fun w => by kernel_rfl) ?_
        intro b_7
        refine ⟨.inr (.nil), ?_⟩
        refine anyS_all (rs := [13]) (by kernel_rfl) (by simp) ?_
        intro i hi; obtain rfl := List.mem_singleton.1 hi; clear hi
        refine opS_0 rfl rfl ?_
        refine e_appendL (enc := letV) (xs := (us : List Let)) (ns := ([(us.getD (atI us.length i) default)] : List Let)) (zs := (us ++ [(us.getD (atI us.length i) default)])) (bytes := 32) letV_len letV_one Try.underlying213 (i := Try.t218) rfl rfl rfl rfl rfl (by decide) rfl rfl (by first | rfl | omega) (by first | rfl | omega) (.t (.t .h)) (fun w hs => celR .h w hs) (by first | rfl | simp) (by (try simp only [List.length_append, List.length_cons, List.length_nil] at *); omega) (by (try simp only [List.length_append, List.length_cons, List.length_nil] at *); omega) ?_
        intro a_8 c_9
        refine ⟨.inr (.nil), ?_⟩
        refine anyS_take (i := 14) rfl (by kernel_rfl) (by kernel_rfl) (by kernel_rfl) (by kernel_rfl) (Yq.of (v := .pointer (some ⟨wb, 0, none⟩)) (y_nilP rfl) rfl) (.nil) ?_
        refine anyS_take (i := 15) rfl (by kernel_rfl) (by kernel_rfl) (by kernel_rfl) (by kernel_rfl) (Yq.of (v := .pointer (some ⟨wb, 0, none⟩)) (y_fieldAddr (o' := 0) rfl Try.underlying215 rfl Try.sizeOf213 (by decide) rfl) rfl) (.nil) ?_
        refine anyS_all (rs := [16]) (by kernel_rfl) (by simp) ?_
        intro i hi; obtain rfl := List.mem_singleton.1 hi; clear hi
        refine opS_0 rfl rfl ?_
        refine e_store (vs := [.slice a_8 ((us ++ [(us.getD (atI us.length i) default)]).length) c_9]) (l' := [.slice a_8 ((us ++ [(us.getD (atI us.length i) default)]).length) c_9, .slice ba bs.length bc]) rfl rfl rfl rfl Try.sizeOf213 (.t (.t .h)) (Nat.le_of_ble_eq_true rfl) rfl ?_
        refine ⟨.inr (.nil), ?_⟩
        refine anyS_done (by kernel_rfl) ?_
        refine thenS_n ?_
        refine wpS_seq ?_
        refine wpS_region ?_
        refine s_y (v := .bool (decide (0 < us.length))) (y_move rfl) rfl ?_
        refine s_y (v := .bool (decide (0 < us.length))) (y_assign rfl) rfl ?_
        refine wpL_nil ?_
        refine thenS_n ?_
        refine wpS_ret ?_
        refine fin1 (M := [cel wb 215 [.slice a_8 ((us ++ [(us.getD (atI us.length i) default)]).length) c_9, .slice ba bs.length bc], osl a_8 c_9 ((us ++ [(us.getD (atI us.length i) default)]).length) 2 218 ((us ++ [(us.getD (atI us.length i) default)]).flatMap letV), osl ba bc bs.length 2 218 (bs.flatMap letV), famb ((us ++ [(us.getD (atI us.length i) default)]) ++ bs)]) (v := .bool (decide (0 < us.length))) (.inr rfl) (.p .h (.p .h (.p (.t .h) (.w (.t .h) (famb_sub (db_sub (atI_lt i (by omega)))) .nil)))) Try.results105 rfl ?_
        exact fun w' hs => ⟨((a_8, c_9), (ba, bc)), (congrArg (fun b : Bool => Ending.returned (.bool b)) (show _ = decide (0 < us.length) from (by first | exact (decide_eq_true (by omega)).symm | rfl))), by rw [show (dbU us i) = (us ++ [(us.getD (atI us.length i) default)]) from (by unfold dbU; rw [if_neg (by omega)])]; exact hs⟩
      · -- number 10 first
        refine opS_0 rfl rfl ?_
        refine OpE.y (v := .pointer (some ⟨aB ua, aO ua + (atI us.length i) * 2, none⟩)) (y_idx (o := (atI us.length i) * 2) rfl rfl Try.underlying213 Try.sizeOf218 (oslR (.t .h)) (fl_len letV_len _) (by decide) (by omega) (by omega) (by omega)) ?_
        refine ⟨.inr (.nil), ?_⟩
        refine anyS_all (rs := [4, 11]) (by kernel_rfl) (by simp) ?_
        intro i hi10; simp only [List.mem_cons, List.not_mem_nil, or_false] at hi10; rcases hi10 with rfl | rfl
        · -- number 4 first
          refine opS_0 rfl rfl ?_
          refine OpE.y (v := .slice ua us.length uc) (y_load1 rfl Try.isAgg213 (own1 .h rfl)) ?_
          refine ⟨.inr (.nil), ?_⟩
          refine anyS_all (rs := [11]) (by kernel_rfl) (by simp) ?_
          intro i hi; obtain rfl := List.mem_singleton.1 hi; clear hi
          refine opS_0 rfl rfl ?_
          refine OpE.y (v := .agg #[.int .i64 ((us.getD (atI us.length i) default).to), .slice ((us.getD (atI us.length i) default).a) ((us.getD (atI us.length i) default).n) ((us.getD (atI us.length i) default).c)]) (y_loadN (vs := letV (us.getD (atI us.length i) default)) rfl Try.isAgg218 Try.sizeOf218 (rdN (oslR (.t .h)) (fl_getN letV_len us (atI us.length i) (by first | omega | (simp only [List.length_set, List.length_take, List.length_drop]; done) | (simp only [List.length_set, List.length_take, List.length_drop]; omega))))) ?_
          refine ⟨.inr (.nil), ?_⟩
          refine anyS_all (rs := [12]) (by kernel_rfl) (by simp) ?_
          intro i hi; obtain rfl := List.mem_singleton.1 hi; clear hi
          refine opS_0 rfl rfl ?_
          refine e_bsliceL (e := 218) (m := [(0, .agg #[.int .i64 ((us.getD (atI us.length i) default).to), .slice ((us.getD (atI us.length i) default).a) ((us.getD (atI us.length i) default).n) ((us.getD (atI us.length i) default).c)])]) (l := [.int .i64 ((us.getD (atI us.length i) default).to), .slice ((us.getD (atI us.length i) default).a) ((us.getD (atI us.length i) default).n) ((us.getD (atI us.length i) default).c)]) (evc rfl evn) (fun w => by kernel_rfl) ?_
          intro b_11
          refine ⟨.inr (.nil), ?_⟩
          refine anyS_all (rs := [13]) (by kernel_rfl) (by simp) ?_
          intro i hi; obtain rfl := List.mem_singleton.1 hi; clear hi
          refine opS_0 rfl rfl ?_
          refine e_appendL (enc := letV) (xs := (us : List Let)) (ns := ([(us.getD (atI us.length i) default)] : List Let)) (zs := (us ++ [(us.getD (atI us.length i) default)])) (bytes := 32) letV_len letV_one Try.underlying213 (i := Try.t218) rfl rfl rfl rfl rfl (by decide) rfl rfl (by first | rfl | omega) (by first | rfl | omega) (.t (.t .h)) (fun w hs => celR .h w hs) (by first | rfl | simp) (by (try simp only [List.length_append, List.length_cons, List.length_nil] at *); omega) (by (try simp only [List.length_append, List.length_cons, List.length_nil] at *); omega) ?_
          intro a_12 c_13
          refine ⟨.inr (.nil), ?_⟩
          refine anyS_take (i := 14) rfl (by kernel_rfl) (by kernel_rfl) (by kernel_rfl) (by kernel_rfl) (Yq.of (v := .pointer (some ⟨wb, 0, none⟩)) (y_nilP rfl) rfl) (.nil) ?_
          refine anyS_take (i := 15) rfl (by kernel_rfl) (by kernel_rfl) (by kernel_rfl) (by kernel_rfl) (Yq.of (v := .pointer (some ⟨wb, 0, none⟩)) (y_fieldAddr (o' := 0) rfl Try.underlying215 rfl Try.sizeOf213 (by decide) rfl) rfl) (.nil) ?_
          refine anyS_all (rs := [16]) (by kernel_rfl) (by simp) ?_
          intro i hi; obtain rfl := List.mem_singleton.1 hi; clear hi
          refine opS_0 rfl rfl ?_
          refine e_store (vs := [.slice a_12 ((us ++ [(us.getD (atI us.length i) default)]).length) c_13]) (l' := [.slice a_12 ((us ++ [(us.getD (atI us.length i) default)]).length) c_13, .slice ba bs.length bc]) rfl rfl rfl rfl Try.sizeOf213 (.t (.t .h)) (Nat.le_of_ble_eq_true rfl) rfl ?_
          refine ⟨.inr (.nil), ?_⟩
          refine anyS_done (by kernel_rfl) ?_
          refine thenS_n ?_
          refine wpS_seq ?_
          refine wpS_region ?_
          refine s_y (v := .bool (decide (0 < us.length))) (y_move rfl) rfl ?_
          refine s_y (v := .bool (decide (0 < us.length))) (y_assign rfl) rfl ?_
          refine wpL_nil ?_
          refine thenS_n ?_
          refine wpS_ret ?_
          refine fin1 (M := [cel wb 215 [.slice a_12 ((us ++ [(us.getD (atI us.length i) default)]).length) c_13, .slice ba bs.length bc], osl a_12 c_13 ((us ++ [(us.getD (atI us.length i) default)]).length) 2 218 ((us ++ [(us.getD (atI us.length i) default)]).flatMap letV), osl ba bc bs.length 2 218 (bs.flatMap letV), famb ((us ++ [(us.getD (atI us.length i) default)]) ++ bs)]) (v := .bool (decide (0 < us.length))) (.inr rfl) (.p .h (.p .h (.p (.t .h) (.w (.t .h) (famb_sub (db_sub (atI_lt i (by omega)))) .nil)))) Try.results105 rfl ?_
          exact fun w' hs => ⟨((a_12, c_13), (ba, bc)), (congrArg (fun b : Bool => Ending.returned (.bool b)) (show _ = decide (0 < us.length) from (by first | exact (decide_eq_true (by omega)).symm | rfl))), by rw [show (dbU us i) = (us ++ [(us.getD (atI us.length i) default)]) from (by unfold dbU; rw [if_neg (by omega)])]; exact hs⟩
        · -- number 11 first
          refine opS_0 rfl rfl ?_
          refine OpE.y (v := .agg #[.int .i64 ((us.getD (atI us.length i) default).to), .slice ((us.getD (atI us.length i) default).a) ((us.getD (atI us.length i) default).n) ((us.getD (atI us.length i) default).c)]) (y_loadN (vs := letV (us.getD (atI us.length i) default)) rfl Try.isAgg218 Try.sizeOf218 (rdN (oslR (.t .h)) (fl_getN letV_len us (atI us.length i) (by first | omega | (simp only [List.length_set, List.length_take, List.length_drop]; done) | (simp only [List.length_set, List.length_take, List.length_drop]; omega))))) ?_
          refine ⟨.inr (.nil), ?_⟩
          refine anyS_all (rs := [4, 12]) (by kernel_rfl) (by simp) ?_
          intro i hi14; simp only [List.mem_cons, List.not_mem_nil, or_false] at hi14; rcases hi14 with rfl | rfl
          · -- number 4 first
            refine opS_0 rfl rfl ?_
            refine OpE.y (v := .slice ua us.length uc) (y_load1 rfl Try.isAgg213 (own1 .h rfl)) ?_
            refine ⟨.inr (.nil), ?_⟩
            refine anyS_all (rs := [12]) (by kernel_rfl) (by simp) ?_
            intro i hi; obtain rfl := List.mem_singleton.1 hi; clear hi
            refine opS_0 rfl rfl ?_
            refine e_bsliceL (e := 218) (m := [(0, .agg #[.int .i64 ((us.getD (atI us.length i) default).to), .slice ((us.getD (atI us.length i) default).a) ((us.getD (atI us.length i) default).n) ((us.getD (atI us.length i) default).c)])]) (l := [.int .i64 ((us.getD (atI us.length i) default).to), .slice ((us.getD (atI us.length i) default).a) ((us.getD (atI us.length i) default).n) ((us.getD (atI us.length i) default).c)]) (evc rfl evn) (fun w => by kernel_rfl) ?_
            intro b_15
            refine ⟨.inr (.nil), ?_⟩
            refine anyS_all (rs := [13]) (by kernel_rfl) (by simp) ?_
            intro i hi; obtain rfl := List.mem_singleton.1 hi; clear hi
            refine opS_0 rfl rfl ?_
            refine e_appendL (enc := letV) (xs := (us : List Let)) (ns := ([(us.getD (atI us.length i) default)] : List Let)) (zs := (us ++ [(us.getD (atI us.length i) default)])) (bytes := 32) letV_len letV_one Try.underlying213 (i := Try.t218) rfl rfl rfl rfl rfl (by decide) rfl rfl (by first | rfl | omega) (by first | rfl | omega) (.t (.t .h)) (fun w hs => celR .h w hs) (by first | rfl | simp) (by (try simp only [List.length_append, List.length_cons, List.length_nil] at *); omega) (by (try simp only [List.length_append, List.length_cons, List.length_nil] at *); omega) ?_
            intro a_16 c_17
            refine ⟨.inr (.nil), ?_⟩
            refine anyS_take (i := 14) rfl (by kernel_rfl) (by kernel_rfl) (by kernel_rfl) (by kernel_rfl) (Yq.of (v := .pointer (some ⟨wb, 0, none⟩)) (y_nilP rfl) rfl) (.nil) ?_
            refine anyS_take (i := 15) rfl (by kernel_rfl) (by kernel_rfl) (by kernel_rfl) (by kernel_rfl) (Yq.of (v := .pointer (some ⟨wb, 0, none⟩)) (y_fieldAddr (o' := 0) rfl Try.underlying215 rfl Try.sizeOf213 (by decide) rfl) rfl) (.nil) ?_
            refine anyS_all (rs := [16]) (by kernel_rfl) (by simp) ?_
            intro i hi; obtain rfl := List.mem_singleton.1 hi; clear hi
            refine opS_0 rfl rfl ?_
            refine e_store (vs := [.slice a_16 ((us ++ [(us.getD (atI us.length i) default)]).length) c_17]) (l' := [.slice a_16 ((us ++ [(us.getD (atI us.length i) default)]).length) c_17, .slice ba bs.length bc]) rfl rfl rfl rfl Try.sizeOf213 (.t (.t .h)) (Nat.le_of_ble_eq_true rfl) rfl ?_
            refine ⟨.inr (.nil), ?_⟩
            refine anyS_done (by kernel_rfl) ?_
            refine thenS_n ?_
            refine wpS_seq ?_
            refine wpS_region ?_
            refine s_y (v := .bool (decide (0 < us.length))) (y_move rfl) rfl ?_
            refine s_y (v := .bool (decide (0 < us.length))) (y_assign rfl) rfl ?_
            refine wpL_nil ?_
            refine thenS_n ?_
            refine wpS_ret ?_
            refine fin1 (M := [cel wb 215 [.slice a_16 ((us ++ [(us.getD (atI us.length i) default)]).length) c_17, .slice ba bs.length bc], osl a_16 c_17 ((us ++ [(us.getD (atI us.length i) default)]).length) 2 218 ((us ++ [(us.getD (atI us.length i) default)]).flatMap letV), osl ba bc bs.length 2 218 (bs.flatMap letV), famb ((us ++ [(us.getD (atI us.length i) default)]) ++ bs)]) (v := .bool (decide (0 < us.length))) (.inr rfl) (.p .h (.p .h (.p (.t .h) (.w (.t .h) (famb_sub (db_sub (atI_lt i (by omega)))) .nil)))) Try.results105 rfl ?_
            exact fun w' hs => ⟨((a_16, c_17), (ba, bc)), (congrArg (fun b : Bool => Ending.returned (.bool b)) (show _ = decide (0 < us.length) from (by first | exact (decide_eq_true (by omega)).symm | rfl))), by rw [show (dbU us i) = (us ++ [(us.getD (atI us.length i) default)]) from (by unfold dbU; rw [if_neg (by omega)])]; exact hs⟩
          · -- number 12 first
            refine opS_0 rfl rfl ?_
            refine e_bsliceL (e := 218) (m := [(0, .agg #[.int .i64 ((us.getD (atI us.length i) default).to), .slice ((us.getD (atI us.length i) default).a) ((us.getD (atI us.length i) default).n) ((us.getD (atI us.length i) default).c)])]) (l := [.int .i64 ((us.getD (atI us.length i) default).to), .slice ((us.getD (atI us.length i) default).a) ((us.getD (atI us.length i) default).n) ((us.getD (atI us.length i) default).c)]) (evc rfl evn) (fun w => by kernel_rfl) ?_
            intro b_18
            refine ⟨.inr (.nil), ?_⟩
            refine anyS_all (rs := [4]) (by kernel_rfl) (by simp) ?_
            intro i hi; obtain rfl := List.mem_singleton.1 hi; clear hi
            refine opS_0 rfl rfl ?_
            refine OpE.y (v := .slice ua us.length uc) (y_load1 rfl Try.isAgg213 (own1 (.t .h) rfl)) ?_
            refine ⟨.inr (.nil), ?_⟩
            refine anyS_all (rs := [13]) (by kernel_rfl) (by simp) ?_
            intro i hi; obtain rfl := List.mem_singleton.1 hi; clear hi
            refine opS_0 rfl rfl ?_
            refine e_appendL (enc := letV) (xs := (us : List Let)) (ns := ([(us.getD (atI us.length i) default)] : List Let)) (zs := (us ++ [(us.getD (atI us.length i) default)])) (bytes := 32) letV_len letV_one Try.underlying213 (i := Try.t218) rfl rfl rfl rfl rfl (by decide) rfl rfl (by first | rfl | omega) (by first | rfl | omega) (.t (.t .h)) (fun w hs => celR .h w hs) (by first | rfl | simp) (by (try simp only [List.length_append, List.length_cons, List.length_nil] at *); omega) (by (try simp only [List.length_append, List.length_cons, List.length_nil] at *); omega) ?_
            intro a_19 c_20
            refine ⟨.inr (.nil), ?_⟩
            refine anyS_take (i := 14) rfl (by kernel_rfl) (by kernel_rfl) (by kernel_rfl) (by kernel_rfl) (Yq.of (v := .pointer (some ⟨wb, 0, none⟩)) (y_nilP rfl) rfl) (.nil) ?_
            refine anyS_take (i := 15) rfl (by kernel_rfl) (by kernel_rfl) (by kernel_rfl) (by kernel_rfl) (Yq.of (v := .pointer (some ⟨wb, 0, none⟩)) (y_fieldAddr (o' := 0) rfl Try.underlying215 rfl Try.sizeOf213 (by decide) rfl) rfl) (.nil) ?_
            refine anyS_all (rs := [16]) (by kernel_rfl) (by simp) ?_
            intro i hi; obtain rfl := List.mem_singleton.1 hi; clear hi
            refine opS_0 rfl rfl ?_
            refine e_store (vs := [.slice a_19 ((us ++ [(us.getD (atI us.length i) default)]).length) c_20]) (l' := [.slice a_19 ((us ++ [(us.getD (atI us.length i) default)]).length) c_20, .slice ba bs.length bc]) rfl rfl rfl rfl Try.sizeOf213 (.t (.t .h)) (Nat.le_of_ble_eq_true rfl) rfl ?_
            refine ⟨.inr (.nil), ?_⟩
            refine anyS_done (by kernel_rfl) ?_
            refine thenS_n ?_
            refine wpS_seq ?_
            refine wpS_region ?_
            refine s_y (v := .bool (decide (0 < us.length))) (y_move rfl) rfl ?_
            refine s_y (v := .bool (decide (0 < us.length))) (y_assign rfl) rfl ?_
            refine wpL_nil ?_
            refine thenS_n ?_
            refine wpS_ret ?_
            refine fin1 (M := [cel wb 215 [.slice a_19 ((us ++ [(us.getD (atI us.length i) default)]).length) c_20, .slice ba bs.length bc], osl a_19 c_20 ((us ++ [(us.getD (atI us.length i) default)]).length) 2 218 ((us ++ [(us.getD (atI us.length i) default)]).flatMap letV), osl ba bc bs.length 2 218 (bs.flatMap letV), famb ((us ++ [(us.getD (atI us.length i) default)]) ++ bs)]) (v := .bool (decide (0 < us.length))) (.inr rfl) (.p .h (.p .h (.p (.t .h) (.w (.t .h) (famb_sub (db_sub (atI_lt i (by omega)))) .nil)))) Try.results105 rfl ?_
            exact fun w' hs => ⟨((a_19, c_20), (ba, bc)), (congrArg (fun b : Bool => Ending.returned (.bool b)) (show _ = decide (0 < us.length) from (by first | exact (decide_eq_true (by omega)).symm | rfl))), by rw [show (dbU us i) = (us ++ [(us.getD (atI us.length i) default)]) from (by unfold dbU; rw [if_neg (by omega)])]; exact hs⟩
  · -- decide (0 < us.length) false
    have p1 := of_decide_eq_false b1
    refine wpS_skip ?_
    refine thenS_n ?_
    refine wpS_seq ?_
    refine wpS_region ?_
    refine s_y (v := .bool (decide (0 < us.length))) (y_move rfl) rfl ?_
    refine s_y (v := .bool (decide (0 < us.length))) (y_assign rfl) rfl ?_
    refine wpL_nil ?_
    refine thenS_n ?_
    refine wpS_ret ?_
    refine fin1 (M := [cel wb 215 [.slice ua us.length uc, .slice ba bs.length bc], osl ua uc us.length 2 218 (us.flatMap letV), osl ba bc bs.length 2 218 (bs.flatMap letV), famb (us ++ bs)]) (v := .bool (decide (0 < us.length))) (.inr rfl) (.p .h (.p .h (.p .h (.p .h .nil)))) Try.results105 rfl ?_
    exact fun w' hs => ⟨((ua, uc), (ba, bc)), (congrArg (fun b : Bool => Ending.returned (.bool b)) (show _ = decide (0 < us.length) from (by first | exact (decide_eq_false (by omega)).symm | rfl))), by rw [show (dbU us i) = us from (by unfold dbU; rw [if_pos (by omega)])]; exact hs⟩

theorem send0_c (to : Int) (a : Option Addr) (n c : Nat) (w : World) : Pure Try.prog 104 #[.pointer none, .int .i64 to, .slice a n c] w (.tuple #[]) := by
  refine calls_S (n := 23) (σ0 := (upd (upd (upd fr0 0 (.pointer none)) 1 (.int .i64 to)) 2 (.slice a n c))) (D := []) (A := []) Try.func104 rfl Try.ntmps104 rfl (a3_fr _ _ _) (SH.start w) ?_
  refine wpS_seq ?_
  refine wpS_region ?_
  refine s_y (v := .pointer none) (y_move rfl) rfl ?_
  refine s_y (v := .bool false) (y_ptrNe rfl rfl Try.underlying125 (by kernel_rfl) rfl) rfl ?_
  refine wpL_nil ?_
  refine thenS_n ?_
  refine wpS_cond_f rfl ?_
  refine wpS_skip ?_
  exact fin0 (.inl rfl) (.nil) Try.results104 (fun w' hs => ⟨rfl, hs⟩)

theorem send_c (wb : Nat) (ua : Option Addr) (uc : Nat) (ba : Option Addr) (bc : Nat) (us bs : List Let) (to : Int) (a : Option Addr) (n c : Nat) (d : List UInt8) (w : World) (hul : us.length ≤ 100000) (hn : d.length = n) (hr : Rds w a (d.flatMap byteV)) (hb : n ≤ 1000000) (hap : 0 < (d.flatMap byteV).length → aB a ∉ (([cel wb 215 [.slice ua us.length uc, .slice ba bs.length bc], osl ua uc us.length 2 218 (us.flatMap letV), osl ba bc bs.length 2 218 (bs.flatMap letV), famb (us ++ bs)] : List Res).flatMap Res.fp)) (hA : SH w (([cel wb 215 [.slice ua us.length uc, .slice ba bs.length bc], osl ua uc us.length 2 218 (us.flatMap letV), osl ba bc bs.length 2 218 (bs.flatMap letV), famb (us ++ bs)] : List Res).flatMap Res.fp) [cel wb 215 [.slice ua us.length uc, .slice ba bs.length bc], osl ua uc us.length 2 218 (us.flatMap letV), osl ba bc bs.length 2 218 (bs.flatMap letV), famb (us ++ bs)] w) : Calls Try.prog 104 #[.pointer (some ⟨wb, 0, none⟩), .int .i64 to, .slice a n c] w (fun e w' => ∃ x : (((Option Addr × Nat) × (Option Addr × Nat)) × (Option Addr × Nat)), e = .returned (.tuple #[]) ∧ SH w (([cel wb 215 [.slice ua us.length uc, .slice ba bs.length bc], osl ua uc us.length 2 218 (us.flatMap letV), osl ba bc bs.length 2 218 (bs.flatMap letV), famb (us ++ bs)] : List Res).flatMap Res.fp) [cel wb 215 [.slice x.1.1.1 ((us ++ [(Let.mk to x.2.1 d.length x.2.2 d)]).length) x.1.1.2, .slice x.1.2.1 bs.length x.1.2.2], osl x.1.1.1 x.1.1.2 ((us ++ [(Let.mk to x.2.1 d.length x.2.2 d)]).length) 2 218 ((us ++ [(Let.mk to x.2.1 d.length x.2.2 d)]).flatMap letV), osl x.1.2.1 x.1.2.2 bs.length 2 218 (bs.flatMap letV), famb ((us ++ [(Let.mk to x.2.1 d.length x.2.2 d)]) ++ bs)] w') := by
  refine calls_S (n := 23) (σ0 := (upd (upd (upd fr0 0 (.pointer (some ⟨wb, 0, none⟩))) 1 (.int .i64 to)) 2 (.slice a n c))) (D := (([cel wb 215 [.slice ua us.length uc, .slice ba bs.length bc], osl ua uc us.length 2 218 (us.flatMap letV), osl ba bc bs.length 2 218 (bs.flatMap letV), famb (us ++ bs)] : List Res).flatMap Res.fp)) (A := [cel wb 215 [.slice ua us.length uc, .slice ba bs.length bc], osl ua uc us.length 2 218 (us.flatMap letV), osl ba bc bs.length 2 218 (bs.flatMap letV), famb (us ++ bs)]) Try.func104 rfl Try.ntmps104 rfl (a3_fr _ _ _) hA ?_
  refine wpS_seq ?_
  refine wpS_region ?_
  refine s_y (v := .pointer (some ⟨wb, 0, none⟩)) (y_move rfl) rfl ?_
  refine s_y (v := .bool true) (y_ptrNe rfl rfl Try.underlying125 (by kernel_rfl) rfl) rfl ?_
  refine wpL_nil ?_
  refine thenS_n ?_
  refine wpS_cond_t rfl ?_
  refine wpS_anyL [] [] (by kernel_rfl) ?_
  refine anyS_take (i := 0) rfl (by kernel_rfl) (by kernel_rfl) (by kernel_rfl) (by kernel_rfl) (Yq.of (v := .pointer (some ⟨wb, 0, none⟩)) (y_move rfl) rfl) (.nil) ?_
  refine anyS_take (i := 1) rfl (by kernel_rfl) (by kernel_rfl) (by kernel_rfl) (by kernel_rfl) (Yq.of (v := .pointer (some ⟨wb, 0, none⟩)) (y_move rfl) rfl) (.nil) ?_
  refine anyS_take (i := 2) rfl (by kernel_rfl) (by kernel_rfl) (by kernel_rfl) (by kernel_rfl) (Yq.of (v := .pointer (some ⟨wb, 0, none⟩)) (y_nilP rfl) rfl) (.nil) ?_
  refine anyS_take (i := 3) rfl (by kernel_rfl) (by kernel_rfl) (by kernel_rfl) (by kernel_rfl) (Yq.of (v := .pointer (some ⟨wb, 0, none⟩)) (y_fieldAddr (o' := 0) rfl Try.underlying215 rfl Try.sizeOf213 (by decide) rfl) rfl) (.nil) ?_
  refine anyS_take (i := 5) rfl (by kernel_rfl) (by kernel_rfl) (by kernel_rfl) (by kernel_rfl) (Yq.of (v := .int .i64 to) (y_move rfl) rfl) (.nil) ?_
  refine anyS_take (i := 7) rfl (by kernel_rfl) (by kernel_rfl) (by kernel_rfl) (by kernel_rfl) (Yq.of (v := .slice a n c) (y_move rfl) rfl) (.nil) ?_
  refine anyS_all (rs := [4, 6]) (by kernel_rfl) (by simp) ?_
  intro i hi1; simp only [List.mem_cons, List.not_mem_nil, or_false] at hi1; rcases hi1 with rfl | rfl
  · -- number 4 first
    refine opS_0 rfl rfl ?_
    refine OpE.y (v := .slice ua us.length uc) (y_load1 rfl Try.isAgg213 (own1 .h rfl)) ?_
    refine ⟨.inr (.nil), ?_⟩
    refine anyS_all (rs := [6]) (by kernel_rfl) (by simp) ?_
    intro i hi; obtain rfl := List.mem_singleton.1 hi; clear hi
    refine opS_0 rfl rfl ?_
    refine e_bsliceL (e := 5) (m := []) (l := []) evn (fun w => by kernel_rfl) ?_
    intro b_2
    refine ⟨.inr (.nil), ?_⟩
    refine anyS_all (rs := [8]) (by kernel_rfl) (by simp) ?_
    intro i hi; obtain rfl := List.mem_singleton.1 hi; clear hi
    refine opS_0 rfl rfl ?_
    refine e_bsliceL (e := 61) (m := [(0, .slice (some ⟨b_2, 0, none⟩) 0 0), (1, .slice a n c)]) (l := [.slice (some ⟨b_2, 0, none⟩) 0 0, .slice a n c]) (evc rfl (evc rfl evn)) (fun w => by kernel_rfl) ?_
    intro b_3
    refine ⟨.inr (.nil), ?_⟩
    refine anyS_all (rs := [9]) (by kernel_rfl) (by simp) ?_
    intro i hi; obtain rfl := List.mem_singleton.1 hi; clear hi
    refine opS_0 rfl rfl ?_
    refine e_call (f := 187) (args := #[.slice (some ⟨b_3, 0, none⟩) 2 2]) (X := Option Addr × Nat) (A := []) (M := [cel b_3 61 [.slice (some ⟨b_2, 0, none⟩) 0 0, .slice a n c], cel b_2 5 [], cel wb 215 [.slice ua us.length uc, .slice ba bs.length bc], osl ua uc us.length 2 218 (us.flatMap letV), osl ba bc bs.length 2 218 (bs.flatMap letV), famb (us ++ bs)]) (V := slV d) (A' := fun x => [slR byteV 1 5 d x]) (C := fun _ => True) Try.call187 (ev1 rfl) (.p .h (.p .h (.p .h (.p .h (.p .h (.p .h .nil)))))) (fun w hs => concat2_c b_3 b_2 a n c d w (celR .h w hs) hn ((oldRD' hr hap) w hs) (by omega)) ?_
    rintro ⟨a_4, c_5⟩ -
    refine ⟨.inr (.nil), ?_⟩
    refine anyS_take (i := 10) rfl (by kernel_rfl) (by kernel_rfl) (by kernel_rfl) (by kernel_rfl) (Yq.of (v := .agg #[.int .i64 to, .slice a_4 d.length c_5]) (y_buildL (m := [(0, .int .i64 to), (1, .slice a_4 d.length c_5)]) (vs := #[.int .i64 to, .slice a_4 d.length c_5]) (evc rfl (evc rfl evn)) (fun w => by kernel_rfl)) rfl) (.nil) ?_
    refine anyS_all (rs := [11]) (by kernel_rfl) (by simp) ?_
    intro i hi; obtain rfl := List.mem_singleton.1 hi; clear hi
    refine opS_0 rfl rfl ?_
    refine e_bsliceL (e := 218) (m := [(0, .agg #[.int .i64 to, .slice a_4 d.length c_5])]) (l := [.int .i64 to, .slice a_4 d.length c_5]) (evc rfl evn) (fun w => by kernel_rfl) ?_
    intro b_7
    refine ⟨.inr (.nil), ?_⟩
    refine anyS_all (rs := [12]) (by kernel_rfl) (by simp) ?_
    intro i hi; obtain rfl := List.mem_singleton.1 hi; clear hi
    refine opS_0 rfl rfl ?_
    refine e_appendL (enc := letV) (xs := (us : List Let)) (ns := ([(Let.mk to a_4 d.length c_5 d)] : List Let)) (zs := (us ++ [(Let.mk to a_4 d.length c_5 d)])) (bytes := 32) letV_len letV_one Try.underlying213 (i := Try.t218) rfl rfl rfl rfl rfl (by decide) rfl rfl (by first | rfl | omega) (by first | rfl | omega) (.t (.t (.t (.t (.t .h))))) (fun w hs => celR .h w hs) (by first | rfl | simp) (by (try simp only [List.length_append, List.length_cons, List.length_nil] at *); omega) (by (try simp only [List.length_append, List.length_cons, List.length_nil] at *); omega) ?_
    intro a_8 c_9
    refine ⟨.inr (.nil), ?_⟩
    refine anyS_take (i := 13) rfl (by kernel_rfl) (by kernel_rfl) (by kernel_rfl) (by kernel_rfl) (Yq.of (v := .pointer (some ⟨wb, 0, none⟩)) (y_nilP rfl) rfl) (.nil) ?_
    refine anyS_take (i := 14) rfl (by kernel_rfl) (by kernel_rfl) (by kernel_rfl) (by kernel_rfl) (Yq.of (v := .pointer (some ⟨wb, 0, none⟩)) (y_fieldAddr (o' := 0) rfl Try.underlying215 rfl Try.sizeOf213 (by decide) rfl) rfl) (.nil) ?_
    refine anyS_all (rs := [15]) (by kernel_rfl) (by simp) ?_
    intro i hi; obtain rfl := List.mem_singleton.1 hi; clear hi
    refine opS_0 rfl rfl ?_
    refine e_store (vs := [.slice a_8 ((us ++ [(Let.mk to a_4 d.length c_5 d)]).length) c_9]) (l' := [.slice a_8 ((us ++ [(Let.mk to a_4 d.length c_5 d)]).length) c_9, .slice ba bs.length bc]) rfl rfl rfl rfl Try.sizeOf213 (.t (.t (.t (.t (.t .h))))) (Nat.le_of_ble_eq_true rfl) rfl ?_
    refine ⟨.inr (.nil), ?_⟩
    refine anyS_done (by kernel_rfl) ?_
    refine fin0 (M := [cel wb 215 [.slice a_8 ((us ++ [(Let.mk to a_4 d.length c_5 d)]).length) c_9, .slice ba bs.length bc], osl a_8 c_9 ((us ++ [(Let.mk to a_4 d.length c_5 d)]).length) 2 218 ((us ++ [(Let.mk to a_4 d.length c_5 d)]).flatMap letV), osl ba bc bs.length 2 218 (bs.flatMap letV), famb (us ++ bs), osl a_4 c_5 d.length 1 5 (d.flatMap byteV)]) (.inl rfl) (.p .h (.p .h (.p (.t (.t (.t (.t .h)))) (.p (.t (.t (.t (.t .h)))) (.p (.t .h) .nil))))) Try.results104 ?_
    exact fun w' hs => ⟨(((a_8, c_9), (ba, bc)), (a_4, c_5)), rfl, by have h3 := famb_push (Let.mk to a_4 d.length c_5 d) (.t (.t (.t (.t .h)))) (.t (.t (.t .h))) sd_sub w' hs; exact h3.ent (.p (.t .h) (.p (.t .h) (.p (.t .h) (.p .h .nil))))⟩
  · -- number 6 first
    refine opS_0 rfl rfl ?_
    refine e_bsliceL (e := 5) (m := []) (l := []) evn (fun w => by kernel_rfl) ?_
    intro b_10
    refine ⟨.inr (.nil), ?_⟩
    refine anyS_all (rs := [4, 8]) (by kernel_rfl) (by simp) ?_
    intro i hi11; simp only [List.mem_cons, List.not_mem_nil, or_false] at hi11; rcases hi11 with rfl | rfl
    · -- number 4 first
      refine opS_0 rfl rfl ?_
      refine OpE.y (v := .slice ua us.length uc) (y_load1 rfl Try.isAgg213 (own1 (.t .h) rfl)) ?_
      refine ⟨.inr (.nil), ?_⟩
      refine anyS_all (rs := [8]) (by kernel_rfl) (by simp) ?_
      intro i hi; obtain rfl := List.mem_singleton.1 hi; clear hi
      refine opS_0 rfl rfl ?_
      refine e_bsliceL (e := 61) (m := [(0, .slice (some ⟨b_10, 0, none⟩) 0 0), (1, .slice a n c)]) (l := [.slice (some ⟨b_10, 0, none⟩) 0 0, .slice a n c]) (evc rfl (evc rfl evn)) (fun w => by kernel_rfl) ?_
      intro b_12
      refine ⟨.inr (.nil), ?_⟩
      refine anyS_all (rs := [9]) (by kernel_rfl) (by simp) ?_
      intro i hi; obtain rfl := List.mem_singleton.1 hi; clear hi
      refine opS_0 rfl rfl ?_
      refine e_call (f := 187) (args := #[.slice (some ⟨b_12, 0, none⟩) 2 2]) (X := Option Addr × Nat) (A := []) (M := [cel b_12 61 [.slice (some ⟨b_10, 0, none⟩) 0 0, .slice a n c], cel b_10 5 [], cel wb 215 [.slice ua us.length uc, .slice ba bs.length bc], osl ua uc us.length 2 218 (us.flatMap letV), osl ba bc bs.length 2 218 (bs.flatMap letV), famb (us ++ bs)]) (V := slV d) (A' := fun x => [slR byteV 1 5 d x]) (C := fun _ => True) Try.call187 (ev1 rfl) (.p .h (.p .h (.p .h (.p .h (.p .h (.p .h .nil)))))) (fun w hs => concat2_c b_12 b_10 a n c d w (celR .h w hs) hn ((oldRD' hr hap) w hs) (by omega)) ?_
      rintro ⟨a_13, c_14⟩ -
      refine ⟨.inr (.nil), ?_⟩
      refine anyS_take (i := 10) rfl (by kernel_rfl) (by kernel_rfl) (by kernel_rfl) (by kernel_rfl) (Yq.of (v := .agg #[.int .i64 to, .slice a_13 d.length c_14]) (y_buildL (m := [(0, .int .i64 to), (1, .slice a_13 d.length c_14)]) (vs := #[.int .i64 to, .slice a_13 d.length c_14]) (evc rfl (evc rfl evn)) (fun w => by kernel_rfl)) rfl) (.nil) ?_
      refine anyS_all (rs := [11]) (by kernel_rfl) (by simp) ?_
      intro i hi; obtain rfl := List.mem_singleton.1 hi; clear hi
      refine opS_0 rfl rfl ?_
      refine e_bsliceL (e := 218) (m := [(0, .agg #[.int .i64 to, .slice a_13 d.length c_14])]) (l := [.int .i64 to, .slice a_13 d.length c_14]) (evc rfl evn) (fun w => by kernel_rfl) ?_
      intro b_16
      refine ⟨.inr (.nil), ?_⟩
      refine anyS_all (rs := [12]) (by kernel_rfl) (by simp) ?_
      intro i hi; obtain rfl := List.mem_singleton.1 hi; clear hi
      refine opS_0 rfl rfl ?_
      refine e_appendL (enc := letV) (xs := (us : List Let)) (ns := ([(Let.mk to a_13 d.length c_14 d)] : List Let)) (zs := (us ++ [(Let.mk to a_13 d.length c_14 d)])) (bytes := 32) letV_len letV_one Try.underlying213 (i := Try.t218) rfl rfl rfl rfl rfl (by decide) rfl rfl (by first | rfl | omega) (by first | rfl | omega) (.t (.t (.t (.t (.t .h))))) (fun w hs => celR .h w hs) (by first | rfl | simp) (by (try simp only [List.length_append, List.length_cons, List.length_nil] at *); omega) (by (try simp only [List.length_append, List.length_cons, List.length_nil] at *); omega) ?_
      intro a_17 c_18
      refine ⟨.inr (.nil), ?_⟩
      refine anyS_take (i := 13) rfl (by kernel_rfl) (by kernel_rfl) (by kernel_rfl) (by kernel_rfl) (Yq.of (v := .pointer (some ⟨wb, 0, none⟩)) (y_nilP rfl) rfl) (.nil) ?_
      refine anyS_take (i := 14) rfl (by kernel_rfl) (by kernel_rfl) (by kernel_rfl) (by kernel_rfl) (Yq.of (v := .pointer (some ⟨wb, 0, none⟩)) (y_fieldAddr (o' := 0) rfl Try.underlying215 rfl Try.sizeOf213 (by decide) rfl) rfl) (.nil) ?_
      refine anyS_all (rs := [15]) (by kernel_rfl) (by simp) ?_
      intro i hi; obtain rfl := List.mem_singleton.1 hi; clear hi
      refine opS_0 rfl rfl ?_
      refine e_store (vs := [.slice a_17 ((us ++ [(Let.mk to a_13 d.length c_14 d)]).length) c_18]) (l' := [.slice a_17 ((us ++ [(Let.mk to a_13 d.length c_14 d)]).length) c_18, .slice ba bs.length bc]) rfl rfl rfl rfl Try.sizeOf213 (.t (.t (.t (.t (.t .h))))) (Nat.le_of_ble_eq_true rfl) rfl ?_
      refine ⟨.inr (.nil), ?_⟩
      refine anyS_done (by kernel_rfl) ?_
      refine fin0 (M := [cel wb 215 [.slice a_17 ((us ++ [(Let.mk to a_13 d.length c_14 d)]).length) c_18, .slice ba bs.length bc], osl a_17 c_18 ((us ++ [(Let.mk to a_13 d.length c_14 d)]).length) 2 218 ((us ++ [(Let.mk to a_13 d.length c_14 d)]).flatMap letV), osl ba bc bs.length 2 218 (bs.flatMap letV), famb (us ++ bs), osl a_13 c_14 d.length 1 5 (d.flatMap byteV)]) (.inl rfl) (.p .h (.p .h (.p (.t (.t (.t (.t .h)))) (.p (.t (.t (.t (.t .h)))) (.p (.t .h) .nil))))) Try.results104 ?_
      exact fun w' hs => ⟨(((a_17, c_18), (ba, bc)), (a_13, c_14)), rfl, by have h3 := famb_push (Let.mk to a_13 d.length c_14 d) (.t (.t (.t (.t .h)))) (.t (.t (.t .h))) sd_sub w' hs; exact h3.ent (.p (.t .h) (.p (.t .h) (.p (.t .h) (.p .h .nil))))⟩
    · -- number 8 first
      refine opS_0 rfl rfl ?_
      refine e_bsliceL (e := 61) (m := [(0, .slice (some ⟨b_10, 0, none⟩) 0 0), (1, .slice a n c)]) (l := [.slice (some ⟨b_10, 0, none⟩) 0 0, .slice a n c]) (evc rfl (evc rfl evn)) (fun w => by kernel_rfl) ?_
      intro b_19
      refine ⟨.inr (.nil), ?_⟩
      refine anyS_all (rs := [4, 9]) (by kernel_rfl) (by simp) ?_
      intro i hi20; simp only [List.mem_cons, List.not_mem_nil, or_false] at hi20; rcases hi20 with rfl | rfl
      · -- number 4 first
        refine opS_0 rfl rfl ?_
        refine OpE.y (v := .slice ua us.length uc) (y_load1 rfl Try.isAgg213 (own1 (.t (.t .h)) rfl)) ?_
        refine ⟨.inr (.nil), ?_⟩
        refine anyS_all (rs := [9]) (by kernel_rfl) (by simp) ?_
        intro i hi; obtain rfl := List.mem_singleton.1 hi; clear hi
        refine opS_0 rfl rfl ?_
        refine e_call (f := 187) (args := #[.slice (some ⟨b_19, 0, none⟩) 2 2]) (X := Option Addr × Nat) (A := []) (M := [cel b_19 61 [.slice (some ⟨b_10, 0, none⟩) 0 0, .slice a n c], cel b_10 5 [], cel wb 215 [.slice ua us.length uc, .slice ba bs.length bc], osl ua uc us.length 2 218 (us.flatMap letV), osl ba bc bs.length 2 218 (bs.flatMap letV), famb (us ++ bs)]) (V := slV d) (A' := fun x => [slR byteV 1 5 d x]) (C := fun _ => True) Try.call187 (ev1 rfl) (.p .h (.p .h (.p .h (.p .h (.p .h (.p .h .nil)))))) (fun w hs => concat2_c b_19 b_10 a n c d w (celR .h w hs) hn ((oldRD' hr hap) w hs) (by omega)) ?_
        rintro ⟨a_21, c_22⟩ -
        refine ⟨.inr (.nil), ?_⟩
        refine anyS_take (i := 10) rfl (by kernel_rfl) (by kernel_rfl) (by kernel_rfl) (by kernel_rfl) (Yq.of (v := .agg #[.int .i64 to, .slice a_21 d.length c_22]) (y_buildL (m := [(0, .int .i64 to), (1, .slice a_21 d.length c_22)]) (vs := #[.int .i64 to, .slice a_21 d.length c_22]) (evc rfl (evc rfl evn)) (fun w => by kernel_rfl)) rfl) (.nil) ?_
        refine anyS_all (rs := [11]) (by kernel_rfl) (by simp) ?_
        intro i hi; obtain rfl := List.mem_singleton.1 hi; clear hi
        refine opS_0 rfl rfl ?_
        refine e_bsliceL (e := 218) (m := [(0, .agg #[.int .i64 to, .slice a_21 d.length c_22])]) (l := [.int .i64 to, .slice a_21 d.length c_22]) (evc rfl evn) (fun w => by kernel_rfl) ?_
        intro b_24
        refine ⟨.inr (.nil), ?_⟩
        refine anyS_all (rs := [12]) (by kernel_rfl) (by simp) ?_
        intro i hi; obtain rfl := List.mem_singleton.1 hi; clear hi
        refine opS_0 rfl rfl ?_
        refine e_appendL (enc := letV) (xs := (us : List Let)) (ns := ([(Let.mk to a_21 d.length c_22 d)] : List Let)) (zs := (us ++ [(Let.mk to a_21 d.length c_22 d)])) (bytes := 32) letV_len letV_one Try.underlying213 (i := Try.t218) rfl rfl rfl rfl rfl (by decide) rfl rfl (by first | rfl | omega) (by first | rfl | omega) (.t (.t (.t (.t (.t .h))))) (fun w hs => celR .h w hs) (by first | rfl | simp) (by (try simp only [List.length_append, List.length_cons, List.length_nil] at *); omega) (by (try simp only [List.length_append, List.length_cons, List.length_nil] at *); omega) ?_
        intro a_25 c_26
        refine ⟨.inr (.nil), ?_⟩
        refine anyS_take (i := 13) rfl (by kernel_rfl) (by kernel_rfl) (by kernel_rfl) (by kernel_rfl) (Yq.of (v := .pointer (some ⟨wb, 0, none⟩)) (y_nilP rfl) rfl) (.nil) ?_
        refine anyS_take (i := 14) rfl (by kernel_rfl) (by kernel_rfl) (by kernel_rfl) (by kernel_rfl) (Yq.of (v := .pointer (some ⟨wb, 0, none⟩)) (y_fieldAddr (o' := 0) rfl Try.underlying215 rfl Try.sizeOf213 (by decide) rfl) rfl) (.nil) ?_
        refine anyS_all (rs := [15]) (by kernel_rfl) (by simp) ?_
        intro i hi; obtain rfl := List.mem_singleton.1 hi; clear hi
        refine opS_0 rfl rfl ?_
        refine e_store (vs := [.slice a_25 ((us ++ [(Let.mk to a_21 d.length c_22 d)]).length) c_26]) (l' := [.slice a_25 ((us ++ [(Let.mk to a_21 d.length c_22 d)]).length) c_26, .slice ba bs.length bc]) rfl rfl rfl rfl Try.sizeOf213 (.t (.t (.t (.t (.t .h))))) (Nat.le_of_ble_eq_true rfl) rfl ?_
        refine ⟨.inr (.nil), ?_⟩
        refine anyS_done (by kernel_rfl) ?_
        refine fin0 (M := [cel wb 215 [.slice a_25 ((us ++ [(Let.mk to a_21 d.length c_22 d)]).length) c_26, .slice ba bs.length bc], osl a_25 c_26 ((us ++ [(Let.mk to a_21 d.length c_22 d)]).length) 2 218 ((us ++ [(Let.mk to a_21 d.length c_22 d)]).flatMap letV), osl ba bc bs.length 2 218 (bs.flatMap letV), famb (us ++ bs), osl a_21 c_22 d.length 1 5 (d.flatMap byteV)]) (.inl rfl) (.p .h (.p .h (.p (.t (.t (.t (.t .h)))) (.p (.t (.t (.t (.t .h)))) (.p (.t .h) .nil))))) Try.results104 ?_
        exact fun w' hs => ⟨(((a_25, c_26), (ba, bc)), (a_21, c_22)), rfl, by have h3 := famb_push (Let.mk to a_21 d.length c_22 d) (.t (.t (.t (.t .h)))) (.t (.t (.t .h))) sd_sub w' hs; exact h3.ent (.p (.t .h) (.p (.t .h) (.p (.t .h) (.p .h .nil))))⟩
      · -- number 9 first
        refine opS_0 rfl rfl ?_
        refine e_call (f := 187) (args := #[.slice (some ⟨b_19, 0, none⟩) 2 2]) (X := Option Addr × Nat) (A := []) (M := [cel b_19 61 [.slice (some ⟨b_10, 0, none⟩) 0 0, .slice a n c], cel b_10 5 [], cel wb 215 [.slice ua us.length uc, .slice ba bs.length bc], osl ua uc us.length 2 218 (us.flatMap letV), osl ba bc bs.length 2 218 (bs.flatMap letV), famb (us ++ bs)]) (V := slV d) (A' := fun x => [slR byteV 1 5 d x]) (C := fun _ => True) Try.call187 (ev1 rfl) (.p .h (.p .h (.p .h (.p .h (.p .h (.p .h .nil)))))) (fun w hs => concat2_c b_19 b_10 a n c d w (celR .h w hs) hn ((oldRD' hr hap) w hs) (by omega)) ?_
        rintro ⟨a_27, c_28⟩ -
        refine ⟨.inr (.nil), ?_⟩
        refine anyS_take (i := 10) rfl (by kernel_rfl) (by kernel_rfl) (by kernel_rfl) (by kernel_rfl) (Yq.of (v := .agg #[.int .i64 to, .slice a_27 d.length c_28]) (y_buildL (m := [(0, .int .i64 to), (1, .slice a_27 d.length c_28)]) (vs := #[.int .i64 to, .slice a_27 d.length c_28]) (evc rfl (evc rfl evn)) (fun w => by kernel_rfl)) rfl) (.nil) ?_
        refine anyS_all (rs := [4, 11]) (by kernel_rfl) (by simp) ?_
        intro i hi30; simp only [List.mem_cons, List.not_mem_nil, or_false] at hi30; rcases hi30 with rfl | rfl
        · -- number 4 first
          refine opS_0 rfl rfl ?_
          refine OpE.y (v := .slice ua us.length uc) (y_load1 rfl Try.isAgg213 (own1 (.t (.t (.t .h))) rfl)) ?_
          refine ⟨.inr (.nil), ?_⟩
          refine anyS_all (rs := [11]) (by kernel_rfl) (by simp) ?_
          intro i hi; obtain rfl := List.mem_singleton.1 hi; clear hi
          refine opS_0 rfl rfl ?_
          refine e_bsliceL (e := 218) (m := [(0, .agg #[.int .i64 to, .slice a_27 d.length c_28])]) (l := [.int .i64 to, .slice a_27 d.length c_28]) (evc rfl evn) (fun w => by kernel_rfl) ?_
          intro b_31
          refine ⟨.inr (.nil), ?_⟩
          refine anyS_all (rs := [12]) (by kernel_rfl) (by simp) ?_
          intro i hi; obtain rfl := List.mem_singleton.1 hi; clear hi
          refine opS_0 rfl rfl ?_
          refine e_appendL (enc := letV) (xs := (us : List Let)) (ns := ([(Let.mk to a_27 d.length c_28 d)] : List Let)) (zs := (us ++ [(Let.mk to a_27 d.length c_28 d)])) (bytes := 32) letV_len letV_one Try.underlying213 (i := Try.t218) rfl rfl rfl rfl rfl (by decide) rfl rfl (by first | rfl | omega) (by first | rfl | omega) (.t (.t (.t (.t (.t .h))))) (fun w hs => celR .h w hs) (by first | rfl | simp) (by (try simp only [List.length_append, List.length_cons, List.length_nil] at *); omega) (by (try simp only [List.length_append, List.length_cons, List.length_nil] at *); omega) ?_
          intro a_32 c_33
          refine ⟨.inr (.nil), ?_⟩
          refine anyS_take (i := 13) rfl (by kernel_rfl) (by kernel_rfl) (by kernel_rfl) (by kernel_rfl) (Yq.of (v := .pointer (some ⟨wb, 0, none⟩)) (y_nilP rfl) rfl) (.nil) ?_
          refine anyS_take (i := 14) rfl (by kernel_rfl) (by kernel_rfl) (by kernel_rfl) (by kernel_rfl) (Yq.of (v := .pointer (some ⟨wb, 0, none⟩)) (y_fieldAddr (o' := 0) rfl Try.underlying215 rfl Try.sizeOf213 (by decide) rfl) rfl) (.nil) ?_
          refine anyS_all (rs := [15]) (by kernel_rfl) (by simp) ?_
          intro i hi; obtain rfl := List.mem_singleton.1 hi; clear hi
          refine opS_0 rfl rfl ?_
          refine e_store (vs := [.slice a_32 ((us ++ [(Let.mk to a_27 d.length c_28 d)]).length) c_33]) (l' := [.slice a_32 ((us ++ [(Let.mk to a_27 d.length c_28 d)]).length) c_33, .slice ba bs.length bc]) rfl rfl rfl rfl Try.sizeOf213 (.t (.t (.t (.t (.t .h))))) (Nat.le_of_ble_eq_true rfl) rfl ?_
          refine ⟨.inr (.nil), ?_⟩
          refine anyS_done (by kernel_rfl) ?_
          refine fin0 (M := [cel wb 215 [.slice a_32 ((us ++ [(Let.mk to a_27 d.length c_28 d)]).length) c_33, .slice ba bs.length bc], osl a_32 c_33 ((us ++ [(Let.mk to a_27 d.length c_28 d)]).length) 2 218 ((us ++ [(Let.mk to a_27 d.length c_28 d)]).flatMap letV), osl ba bc bs.length 2 218 (bs.flatMap letV), famb (us ++ bs), osl a_27 c_28 d.length 1 5 (d.flatMap byteV)]) (.inl rfl) (.p .h (.p .h (.p (.t (.t (.t (.t .h)))) (.p (.t (.t (.t (.t .h)))) (.p (.t .h) .nil))))) Try.results104 ?_
          exact fun w' hs => ⟨(((a_32, c_33), (ba, bc)), (a_27, c_28)), rfl, by have h3 := famb_push (Let.mk to a_27 d.length c_28 d) (.t (.t (.t (.t .h)))) (.t (.t (.t .h))) sd_sub w' hs; exact h3.ent (.p (.t .h) (.p (.t .h) (.p (.t .h) (.p .h .nil))))⟩
        · -- number 11 first
          refine opS_0 rfl rfl ?_
          refine e_bsliceL (e := 218) (m := [(0, .agg #[.int .i64 to, .slice a_27 d.length c_28])]) (l := [.int .i64 to, .slice a_27 d.length c_28]) (evc rfl evn) (fun w => by kernel_rfl) ?_
          intro b_34
          refine ⟨.inr (.nil), ?_⟩
          refine anyS_all (rs := [4]) (by kernel_rfl) (by simp) ?_
          intro i hi; obtain rfl := List.mem_singleton.1 hi; clear hi
          refine opS_0 rfl rfl ?_
          refine OpE.y (v := .slice ua us.length uc) (y_load1 rfl Try.isAgg213 (own1 (.t (.t (.t (.t .h)))) rfl)) ?_
          refine ⟨.inr (.nil), ?_⟩
          refine anyS_all (rs := [12]) (by kernel_rfl) (by simp) ?_
          intro i hi; obtain rfl := List.mem_singleton.1 hi; clear hi
          refine opS_0 rfl rfl ?_
          refine e_appendL (enc := letV) (xs := (us : List Let)) (ns := ([(Let.mk to a_27 d.length c_28 d)] : List Let)) (zs := (us ++ [(Let.mk to a_27 d.length c_28 d)])) (bytes := 32) letV_len letV_one Try.underlying213 (i := Try.t218) rfl rfl rfl rfl rfl (by decide) rfl rfl (by first | rfl | omega) (by first | rfl | omega) (.t (.t (.t (.t (.t .h))))) (fun w hs => celR .h w hs) (by first | rfl | simp) (by (try simp only [List.length_append, List.length_cons, List.length_nil] at *); omega) (by (try simp only [List.length_append, List.length_cons, List.length_nil] at *); omega) ?_
          intro a_35 c_36
          refine ⟨.inr (.nil), ?_⟩
          refine anyS_take (i := 13) rfl (by kernel_rfl) (by kernel_rfl) (by kernel_rfl) (by kernel_rfl) (Yq.of (v := .pointer (some ⟨wb, 0, none⟩)) (y_nilP rfl) rfl) (.nil) ?_
          refine anyS_take (i := 14) rfl (by kernel_rfl) (by kernel_rfl) (by kernel_rfl) (by kernel_rfl) (Yq.of (v := .pointer (some ⟨wb, 0, none⟩)) (y_fieldAddr (o' := 0) rfl Try.underlying215 rfl Try.sizeOf213 (by decide) rfl) rfl) (.nil) ?_
          refine anyS_all (rs := [15]) (by kernel_rfl) (by simp) ?_
          intro i hi; obtain rfl := List.mem_singleton.1 hi; clear hi
          refine opS_0 rfl rfl ?_
          refine e_store (vs := [.slice a_35 ((us ++ [(Let.mk to a_27 d.length c_28 d)]).length) c_36]) (l' := [.slice a_35 ((us ++ [(Let.mk to a_27 d.length c_28 d)]).length) c_36, .slice ba bs.length bc]) rfl rfl rfl rfl Try.sizeOf213 (.t (.t (.t (.t (.t .h))))) (Nat.le_of_ble_eq_true rfl) rfl ?_
          refine ⟨.inr (.nil), ?_⟩
          refine anyS_done (by kernel_rfl) ?_
          refine fin0 (M := [cel wb 215 [.slice a_35 ((us ++ [(Let.mk to a_27 d.length c_28 d)]).length) c_36, .slice ba bs.length bc], osl a_35 c_36 ((us ++ [(Let.mk to a_27 d.length c_28 d)]).length) 2 218 ((us ++ [(Let.mk to a_27 d.length c_28 d)]).flatMap letV), osl ba bc bs.length 2 218 (bs.flatMap letV), famb (us ++ bs), osl a_27 c_28 d.length 1 5 (d.flatMap byteV)]) (.inl rfl) (.p .h (.p .h (.p (.t (.t (.t (.t .h)))) (.p (.t (.t (.t (.t .h)))) (.p (.t .h) .nil))))) Try.results104 ?_
          exact fun w' hs => ⟨(((a_35, c_36), (ba, bc)), (a_27, c_28)), rfl, by have h3 := famb_push (Let.mk to a_27 d.length c_28 d) (.t (.t (.t (.t .h)))) (.t (.t (.t .h))) sd_sub w' hs; exact h3.ent (.p (.t .h) (.p (.t .h) (.p (.t .h) (.p .h .nil))))⟩

theorem valsL_c (a : Option Addr) (n c : Nat) (w : World) : Makes Try.prog 194 #[.slice a n c] w [] (X := Nat) (fun x : Nat => .func (.func 234) #[] #[.pointer (some ⟨x, 0, none⟩)]) (fun x : Nat => [cel x 213 [.slice a n c]]) (fun _ => True) := by
  refine calls_S (n := 4) (σ0 := (upd fr0 0 (.slice a n c))) (D := []) (A := []) Try.func194 rfl Try.ntmps194 rfl (a1_fr _) (SH.start w) ?_
  refine wpS_seq ?_
  refine wpS_region ?_
  refine s_e rfl ?_
  refine e_box (v := .slice a n c) (l := [.slice a n c]) rfl rfl ?_
  intro b_1
  refine s_y (v := .nilFunc) (y_assign rfl) rfl ?_
  refine wpL_nil ?_
  refine thenS_n ?_
  refine wpS_seq ?_
  refine wpS_region ?_
  refine s_y (v := .func (.func 234) #[] #[.pointer (some ⟨b_1, 0, none⟩)]) (y_makeFunc (a := #[]) (b := #[.pointer (some ⟨b_1, 0, none⟩)]) ev0 (ev1 rfl)) rfl ?_
  refine s_y (v := .func (.func 234) #[] #[.pointer (some ⟨b_1, 0, none⟩)]) (y_assign rfl) rfl ?_
  refine wpL_nil ?_
  refine thenS_n ?_
  refine wpS_ret ?_
  refine fin1 (M := [cel b_1 213 [.slice a n c]]) (v := .func (.func 234) #[] #[.pointer (some ⟨b_1, 0, none⟩)]) (.inr rfl) (.p .h .nil) Try.results194 rfl ?_
  exact fun w' hs => ⟨b_1, rfl, hs, trivial⟩

theorem valsL_it (b : Nat) (a : Option Addr) (n c : Nat) (vs : List Let) (w : World) (hb : w.cell? ⟨b, 0, none⟩ = some (.slice a n c)) (hn : vs.length = n) (hr : Rds w a (vs.flatMap letV)) (hbn : n ≤ 1000000) : Iter Try.prog 234 #[.pointer (some ⟨b, 0, none⟩)] (fun k => #[.agg #[.int .i64 (((vs.getD k default)).to), .slice (((vs.getD k default)).a) (((vs.getD k default)).n) (((vs.getD k default)).c)]]) (n) (fun z => z = b ∨ 0 < vs.length ∧ z = aB a) w := by
  intro yv I E A hrd hI hA hY
  show Calls Try.prog 234 #[yv, .pointer (some ⟨b, 0, none⟩)] w _
  refine calls_S (n := 16) (σ0 := (upd (upd fr0 0 (yv)) 1 (.pointer (some ⟨b, 0, none⟩)))) (D := (A.flatMap Res.fp)) (A := A) Try.func234 rfl Try.ntmps234 rfl (a2_fr _ _) hA ?_
  refine wpS_seq ?_
  refine wpS_region ?_
  refine s_y (v := .slice a n c) (y_load1 (v := .slice a n c) rfl Try.isAgg213 (old1 hb (hrd _ (.inl rfl)))) rfl ?_
  refine s_y (v := .int .i64 (((n : Nat) : Int))) (y_len (ty' := 0) (at_ := #[]) rfl Try.underlying213) rfl ?_
  refine s_y (v := .int .i64 0) (y_move rfl) rfl ?_
  refine wpL_nil ?_
  refine thenS_n ?_
  refine wpS_block ?_
  refine wpS_loop (fun mez ds σ L => ∃ i : Nat, ∃ A1 : List Res, mez = n - i ∧ (i ≤ n) ∧ (I i A1) ∧ ds = [] ∧ σ 0 = yv ∧ σ 5 = .slice a n c ∧ σ 6 = .int .i64 (((n : Nat) : Int)) ∧ σ 7 = .int .i64 (((i : Nat) : Int)) ∧ Ent L (A1)) (m0 := n - 0) ⟨0, A, rfl, by omega, hI, rfl, rfl, rfl, rfl, rfl, (Ent.refl _)⟩ ?_
  rintro mez ds σ L ⟨i, A1, hm_1, hf0_1, hf1_1, rfl, h0_1, h5_1, h6_1, h7_1, hE_1⟩
  refine wpS_ent hE_1 ?_; clear hE_1
  refine wpS_seq ?_
  refine wpS_region ?_
  refine s_y (v := .bool (decide (i < n))) (y_lss (a := ((i : Nat) : Int)) (b := ((n : Nat) : Int)) (c := decide (i < n)) h7_1 h6_1 (decide_eq_decide.2 (by omega))) rfl ?_
  refine wpL_nil ?_
  refine thenS_n ?_
  refine wpS_seq ?_
  refine wpS_cond (t := decide (i < n)) rfl (fun b2 => ?_) (fun b2 => ?_)
  · -- decide (i < n) true
    have p2 := of_decide_eq_true b2
    refine wpS_skip ?_
    refine thenS_n ?_
    refine wpS_seq ?_
    refine wpS_block ?_
    refine wpS_seq ?_
    refine wpS_region ?_
    refine s_y (v := .pointer (some ⟨aB a, aO a + i * 2, none⟩)) (y_idx (o := i * 2) h5_1 h7_1 Try.underlying213 Try.sizeOf218 (oldRD' hr (fun hl => hrd _ (.inr ⟨fl_pos' letV_len hl, rfl⟩))) ((fl_len letV_len _).trans (by first | omega | (simp only [List.length_set, List.length_take, List.length_drop]; done) | (simp only [List.length_set, List.length_take, List.length_drop]; omega))) (by decide) (by omega) (by omega) (by omega)) rfl ?_
    refine s_y (v := .agg #[.int .i64 ((vs.getD i default).to), .slice ((vs.getD i default).a) ((vs.getD i default).n) ((vs.getD i default).c)]) (y_loadN (vs := letV (vs.getD i default)) rfl Try.isAgg218 Try.sizeOf218 (rdN (oldRD' hr (fun hl => hrd _ (.inr ⟨fl_pos' letV_len hl, rfl⟩))) (fl_getN letV_len vs i (by first | omega | (simp only [List.length_set, List.length_take, List.length_drop]; done) | (simp only [List.length_set, List.length_take, List.length_drop]; omega))))) rfl ?_
    refine s_e rfl ?_
    refine e_alloc (l := [.int .i64 0, .slice none 0 0]) Try.zeroValue218 rfl ?_
    intro b_3
    refine s_e0 ?_
    refine e_store (vs := [.int .i64 ((vs.getD i default).to), .slice ((vs.getD i default).a) ((vs.getD i default).n) ((vs.getD i default).c)]) (l' := [.int .i64 ((vs.getD i default).to), .slice ((vs.getD i default).a) ((vs.getD i default).n) ((vs.getD i default).c)]) rfl rfl rfl rfl Try.sizeOf218 .h (Nat.le_of_ble_eq_true rfl) rfl ?_
    refine wpL_nil ?_
    refine thenS_n ?_
    refine wpS_seq ?_
    refine wpS_region ?_
    refine s_y (v := yv) (y_move h0_1) rfl ?_
    refine s_y (v := .agg #[.int .i64 ((vs.getD i default).to), .slice ((vs.getD i default).a) ((vs.getD i default).n) ((vs.getD i default).c)]) (y_loadN (vs := [.int .i64 ((vs.getD i default).to), .slice ((vs.getD i default).a) ((vs.getD i default).n) ((vs.getD i default).c)]) rfl Try.isAgg218 Try.sizeOf218 (ownN .h rfl)) rfl ?_
    refine s_e rfl ?_
    refine e_yield (own := [cel b_3 218 [.int .i64 ((vs.getD i default).to), .slice ((vs.getD i default).a) ((vs.getD i default).n) ((vs.getD i default).c)]]) (A := A1) (enc := (fun k => #[.agg #[.int .i64 (((vs.getD k default)).to), .slice (((vs.getD k default)).a) (((vs.getD k default)).n) (((vs.getD k default)).c)]])) (k := i) hY rfl (ev1 rfl) (by omega) (by assumption) ?_ ?_
    · intro A_4 hI_5
      refine s_y (v := .bool false) (y_notK (b := true) (c := false) rfl rfl) rfl ?_
      refine wpL_nil ?_
      refine thenS_n ?_
      refine wpS_cond_f rfl ?_
      refine wpS_skip ?_
      refine blockS_n ?_
      refine thenS_n ?_
      refine wpS_region ?_
      refine s_y (v := .int .i64 ((((i + 1) : Nat) : Int))) (y_add (a := ((i : Nat) : Int)) (b := 1) (c := (((i + 1) : Nat) : Int)) h7_1 rfl (wI (by omega) (by omega) (by omega))) rfl ?_
      refine s_y (v := .int .i64 ((((i + 1) : Nat) : Int))) (y_move rfl) rfl ?_
      refine wpL_nil ?_
      refine thenS_n ?_
      exact ⟨_, by omega, ⟨(i + 1), A_4, rfl, by omega, hI_5, rfl, h0_1, h5_1, h6_1, rfl, (Ent.skip _ (Ent.refl _))⟩⟩
    · intro A_6 hI_7
      refine s_y (v := .bool true) (y_notK (b := false) (c := true) rfl rfl) rfl ?_
      refine wpL_nil ?_
      refine thenS_n ?_
      refine wpS_cond_t rfl ?_
      refine wpS_ret ?_
      refine blockS_r ?_
      refine thenS_r ?_
      refine thenS_r ?_
      refine blockS_r ?_
      exact fin0 (.inr rfl) ((Ent.skip _ (Ent.refl _))) Try.results234 (fun w' hs => ⟨rfl, A_6, hs, .inr ⟨i, by omega, hI_7⟩⟩)
  · -- decide (i < n) false
    have p2 := of_decide_eq_false b2
    refine wpS_exit ?_
    refine thenS_x ?_
    refine thenS_x ?_
    refine blockS_h ?_
    exact fin0 (.inl rfl) ((Ent.refl _)) Try.results234 (fun w' hs => ⟨rfl, A1, hs, .inl (by rw [show n = i by omega]; assumption)⟩)

theorem valsL_at (b : Nat) (a : Option Addr) (n c : Nat) (vs : List Let) (w : World) (hb : w.cell? ⟨b, 0, none⟩ = some (.slice a n c)) (hn : vs.length = n) (hr : Rds w a (vs.flatMap letV)) (hbn : n ≤ 1000000) :
    IterAt Try.prog 234 #[.pointer (some ⟨b, 0, none⟩)] (fun k => #[.agg #[.int .i64 (((vs.getD k default)).to), .slice (((vs.getD k default)).a) (((vs.getD k default)).n) (((vs.getD k default)).c)]]) n (fun z => z = b ∨ 0 < vs.length ∧ z = aB a) w :=
  ⟨fun w' hs => valsL_it b a n c vs w' (cell_old hb hs) hn (hr.below (SH.below hs)) hbn, by
    rintro z (rfl | ⟨hl, rfl⟩)
    · exact cell_lt hb
    · exact rdBlk hr (fl_pos letV_len (by decide) hl)⟩

theorem wait0_c (t : Int) (w : World) : Pure Try.prog 110 #[.pointer none, .int .i64 t] w (.int .i64 0) := by
  refine calls_S (n := 22) (σ0 := (upd (upd fr0 0 (.pointer none)) 1 (.int .i64 t))) (D := []) (A := []) Try.func110 rfl Try.ntmps110 rfl (a2_fr _ _) (SH.start w) ?_
  refine wpS_seq ?_
  refine wpS_region ?_
  refine s_e rfl ?_
  refine e_box (v := .int .i64 t) (l := [.int .i64 t]) rfl rfl ?_
  intro b_1
  refine s_y (v := .int .i64 0) (y_assign rfl) rfl ?_
  refine wpL_nil ?_
  refine thenS_n ?_
  refine wpS_seq ?_
  refine wpS_region ?_
  refine s_e rfl ?_
  refine e_alloc (l := [.int .i64 0]) Try.zeroValue3 rfl ?_
  intro b_2
  refine s_e0 ?_
  refine e_store (vs := [.int .i64 0]) (l' := [.int .i64 0]) rfl rfl rfl rfl Try.sizeOf3 .h (Nat.le_of_ble_eq_true rfl) rfl ?_
  refine wpL_nil ?_
  refine thenS_n ?_
  refine wpS_seq ?_
  refine wpS_seq ?_
  refine wpS_region ?_
  refine s_y (v := .pointer none) (y_move rfl) rfl ?_
  refine s_y (v := .bool false) (y_ptrNe rfl rfl Try.underlying125 (by kernel_rfl) rfl) rfl ?_
  refine wpL_nil ?_
  refine thenS_n ?_
  refine wpS_cond_f rfl ?_
  refine wpS_skip ?_
  refine thenS_n ?_
  refine wpS_seq ?_
  refine wpS_region ?_
  refine s_y (v := .int .i64 0) (y_load1 rfl Try.isAgg3 (own1 .h rfl)) rfl ?_
  refine s_y (v := .int .i64 0) (y_assign rfl) rfl ?_
  refine wpL_nil ?_
  refine thenS_n ?_
  refine wpS_ret ?_
  refine fin1 (M := []) (v := .int .i64 0) (.inr rfl) (.nil) Try.results110 rfl ?_
  exact fun w' hs => ⟨rfl, hs⟩

theorem wait_c (wb : Nat) (ba : Option Addr) (bn bc : Nat) (bs : List Let) (t : Int) (w : World) (hu : w.cell? ⟨wb, 1, none⟩ = some (.slice ba bn bc)) (hn : bs.length = bn) (hr : Rds w ba (bs.flatMap letV)) (hb : bn ≤ 1000000) : Pure Try.prog 110 #[.pointer (some ⟨wb, 0, none⟩), .int .i64 t] w (.int .i64 ((((cntT t bs) : Nat) : Int))) := by
  refine calls_S (n := 22) (σ0 := (upd (upd fr0 0 (.pointer (some ⟨wb, 0, none⟩))) 1 (.int .i64 t))) (D := []) (A := []) Try.func110 rfl Try.ntmps110 rfl (a2_fr _ _) (SH.start w) ?_
  refine wpS_seq ?_
  refine wpS_region ?_
  refine s_e rfl ?_
  refine e_box (v := .int .i64 t) (l := [.int .i64 t]) rfl rfl ?_
  intro b_1
  refine s_y (v := .int .i64 0) (y_assign rfl) rfl ?_
  refine wpL_nil ?_
  refine thenS_n ?_
  refine wpS_seq ?_
  refine wpS_region ?_
  refine s_e rfl ?_
  refine e_alloc (l := [.int .i64 0]) Try.zeroValue3 rfl ?_
  intro b_2
  refine s_e0 ?_
  refine e_store (vs := [.int .i64 0]) (l' := [.int .i64 0]) rfl rfl rfl rfl Try.sizeOf3 .h (Nat.le_of_ble_eq_true rfl) rfl ?_
  refine wpL_nil ?_
  refine thenS_n ?_
  refine wpS_seq ?_
  refine wpS_seq ?_
  refine wpS_region ?_
  refine s_y (v := .pointer (some ⟨wb, 0, none⟩)) (y_move rfl) rfl ?_
  refine s_y (v := .bool true) (y_ptrNe rfl rfl Try.underlying125 (by kernel_rfl) rfl) rfl ?_
  refine wpL_nil ?_
  refine thenS_n ?_
  refine wpS_cond_t rfl ?_
  refine wpS_seq ?_
  refine wpS_region ?_
  refine s_y (v := .pointer (some ⟨wb, 0, none⟩)) (y_move rfl) rfl ?_
  refine s_y (v := .pointer (some ⟨wb, 0, none⟩)) (y_nilP rfl) rfl ?_
  refine s_y (v := .pointer (some ⟨wb, 1, none⟩)) (y_fieldAddr (o' := 1) rfl Try.underlying215 rfl Try.sizeOf213 (by decide) rfl) rfl ?_
  refine s_y (v := .slice ba bn bc) (y_load1 (v := .slice ba bn bc) rfl Try.isAgg213 (old1 hu (by simp))) rfl ?_
  refine s_e rfl ?_
  refine e_call (f := 194) (args := #[.slice ba bn bc]) (X := Nat) (A := []) (M := [cel b_2 3 [.int .i64 0], cel b_1 3 [.int .i64 t]]) (V := fun x : Nat => .func (.func 234) #[] #[.pointer (some ⟨x, 0, none⟩)]) (A' := fun x : Nat => [cel x 213 [.slice ba bn bc]]) (C := fun _ => True) Try.call194 (ev1 rfl) (.p .h (.p .h .nil)) (fun w hs => valsL_c ba bn bc w) ?_
  rintro b_3 -
  refine wpL_nil ?_
  refine thenS_n ?_
  refine wpS_block ?_
  refine wpS_rangeFunc (f := 234) (cap := #[.pointer (some ⟨b_3, 0, none⟩)]) (enc := fun k => #[.agg #[.int .i64 (((bs.getD k default)).to), .slice (((bs.getD k default)).a) (((bs.getD k default)).n) (((bs.getD k default)).c)]]) (N := bn) (rd := fun z => z = b_3 ∨ 0 < bs.length ∧ z = aB ba) (A := [cel b_2 3 [.int .i64 0], cel b_1 3 [.int .i64 t]]) (M := [cel b_3 213 [.slice ba bn bc]]) (fun k A => ∃ q : Nat, (q ≤ k) ∧ (q = cntT t (bs.take k)) ∧ A = [cel b_2 3 [.int .i64 (((q : Nat) : Int))], cel b_1 3 [.int .i64 t]]) (fun k e A => False) rfl Try.call234 (by kernel_rfl) (fun _ => rfl) (.p (.t .h) (.p (.t .h) (.p .h .nil))) ⟨0, by omega, rfl, rfl⟩ (fun w hs => (valsL_at b_3 ba bn bc bs w (own1 (.t (.t .h)) rfl w hs) hn ((oldR hr) w hs) (by omega)).it) (fun w hs b hb => by rcases hb with rfl | ⟨hl, rfl⟩; exact apM (A := [cel b_2 3 [.int .i64 0], cel b_1 3 [.int .i64 t]]) hs .h (by simp [cel, blk]); exact apOld hs (rdBlk hr (fl_pos letV_len (by decide) hl)) (by simp)) ?_ ?_ ?_
  · -- a round
    rintro k A' hk_4 ⟨q, hf0_4, hf1_4, rfl⟩ w_4 l_4 hs_4
    refine wpS_region ?_
    refine s_e rfl ?_
    refine e_alloc (l := [.int .i64 0, .slice none 0 0]) Try.zeroValue218 rfl ?_
    intro b_5
    refine s_e0 ?_
    refine e_store (vs := [.int .i64 (((bs.getD k default)).to), .slice (((bs.getD k default)).a) (((bs.getD k default)).n) (((bs.getD k default)).c)]) (l' := [.int .i64 (((bs.getD k default)).to), .slice (((bs.getD k default)).a) (((bs.getD k default)).n) (((bs.getD k default)).c)]) rfl rfl rfl rfl Try.sizeOf218 .h (Nat.le_of_ble_eq_true rfl) rfl ?_
    refine wpL_nil ?_
    refine asg_n fun w2_4 hs2_4 => ?_
    have hrd6 := rdIn (A' := [cel b_5 218 [.int .i64 (((bs.getD k default)).to), .slice (((bs.getD k default)).a) (((bs.getD k default)).n) (((bs.getD k default)).c)], cel b_2 3 [.int .i64 (((q : Nat) : Int))], cel b_1 3 [.int .i64 t]]) hs2_4 (oldR hr w2_4 hs2_4) (fun hl => ⟨rdBlk hr hl, by simp⟩)
    refine wpS_block ?_
    refine wpS_seq ?_
    refine wpS_region ?_
    refine s_y (v := .pointer (some ⟨b_5, 0, none⟩)) (y_fieldAddr (o' := 0) rfl Try.underlying218 rfl Try.sizeOf3 (by decide) rfl) rfl ?_
    refine s_y (v := .int .i64 (((bs.getD k default)).to)) (y_load1 rfl Try.isAgg3 (own1 .h rfl)) rfl ?_
    refine s_y (v := .int .i64 t) (y_load1 rfl Try.isAgg3 (own1 (.t (.t .h)) rfl)) rfl ?_
    refine s_y (v := .bool (decide ((((bs.getD k default)).to : Int) = t))) (y_eql (a := ((bs.getD k default)).to) (b := t) rfl rfl rfl) rfl ?_
    refine wpL_nil ?_
    refine thenS_n ?_
    refine wpS_cond (t := decide ((((bs.getD k default)).to : Int) = t)) rfl (fun b7 => ?_) (fun b7 => ?_)
    · -- decide ((((bs.getD k default)).to : Int) = t) true
      have p7 := of_decide_eq_true b7
      refine wpS_region ?_
      refine s_y (v := .int .i64 (((q : Nat) : Int))) (y_load1 rfl Try.isAgg3 (own1 (.t .h) rfl)) rfl ?_
      refine s_y (v := .int .i64 ((((q + 1) : Nat) : Int))) (y_add (a := ((q : Nat) : Int)) (b := 1) (c := (((q + 1) : Nat) : Int)) rfl rfl (wI (by omega) (by omega) (by omega))) rfl ?_
      refine s_e0 ?_
      refine e_store (vs := [.int .i64 ((((q + 1) : Nat) : Int))]) (l' := [.int .i64 ((((q + 1) : Nat) : Int))]) rfl rfl rfl rfl Try.sizeOf3 (.t .h) (Nat.le_of_ble_eq_true rfl) rfl ?_
      refine wpL_nil ?_
      refine blockS_n ?_
      exact rnd_n ⟨[cel b_2 3 [.int .i64 ((((q + 1) : Nat) : Int))], cel b_1 3 [.int .i64 t]], .p .h (.p (.t .h) .nil), ⟨(q + 1), by omega, (by first | exact cntT_1 (by assumption) (by omega) (by assumption) | exact cntT_0 (by assumption) (by omega) (by assumption)), rfl⟩⟩
    · -- decide ((((bs.getD k default)).to : Int) = t) false
      have p7 := of_decide_eq_false b7
      refine wpS_skip ?_
      refine blockS_n ?_
      exact rnd_n ⟨[cel b_2 3 [.int .i64 (((q : Nat) : Int))], cel b_1 3 [.int .i64 t]], .p (.t .h) (.p (.t .h) .nil), ⟨q, by omega, (by first | exact cntT_1 (by assumption) (by omega) (by assumption) | exact cntT_0 (by assumption) (by omega) (by assumption)), rfl⟩⟩
  · -- behind
    rintro d_4 A' ⟨q, hf0_4, hf1_4, rfl⟩
    refine blockS_n ?_
    refine thenS_n ?_
    refine wpS_seq ?_
    refine wpS_region ?_
    refine s_y (v := .int .i64 (((q : Nat) : Int))) (y_load1 rfl Try.isAgg3 (own1 (.t .h) rfl)) rfl ?_
    refine s_y (v := .int .i64 (((q : Nat) : Int))) (y_assign rfl) rfl ?_
    refine wpL_nil ?_
    refine thenS_n ?_
    refine wpS_ret ?_
    refine fin1 (M := []) (v := .int .i64 (((q : Nat) : Int))) (.inr rfl) (.p .h .nil) Try.results110 rfl ?_
    exact fun w' hs => ⟨congrArg (fun z : Nat => Ending.returned (.int .i64 (z : Int))) (by rw [(by assumption : q = _), List.take_of_length_le (by omega)]), hs⟩
  · -- left
    intro _ _ _ _ _ h; exact h.elim

end Go.Proofs.Ytldkjjnjdjfipaa
