/- The first letter of a box is taken, walked. -/
import Derived.Test.YtldkjjnjdjfipaaWWir4
import Derived.Test.YtldkjjnjdjfipaaP19c
namespace Go.Proofs.Ytldkjjnjdjfipaa
open Go Go.RowKit
set_option linter.unusedVariables false
set_option linter.unusedSimpArgs false
set_option maxRecDepth 10000
set_option maxHeartbeats 1000000

theorem allL_c (a : Option Addr) (n c : Nat) (w : World) : Makes Try.prog 190 #[.slice a n c] w [] (X := Nat) (fun x : Nat => .func (.func 233) #[] #[.pointer (some ⟨x, 0, none⟩)]) (fun x : Nat => [cel x 213 [.slice a n c]]) (fun _ => True) := by
  refine calls_S (n := 4) (σ0 := (upd fr0 0 (.slice a n c))) (D := []) (A := []) Try.func190 rfl Try.ntmps190 rfl (a1_fr _) (SH.start w) ?_
  refine wpS_seq ?_
  refine wpS_region ?_
  refine s_e rfl ?_
  refine e_box (v := .slice a n c) (l := [.slice a n c]) rfl rfl ?_
  intro b_1
  refine s_y (v := .nilFunc) (y_assign rfl) rfl ?_
  refine wpL_nil ?_
  refine thenS_n ?_
  refine wpS_seq ?_
  refine wpS_region ?_
  refine s_y (v := .func (.func 233) #[] #[.pointer (some ⟨b_1, 0, none⟩)]) (y_makeFunc (a := #[]) (b := #[.pointer (some ⟨b_1, 0, none⟩)]) ev0 (ev1 rfl)) rfl ?_
  refine s_y (v := .func (.func 233) #[] #[.pointer (some ⟨b_1, 0, none⟩)]) (y_assign rfl) rfl ?_
  refine wpL_nil ?_
  refine thenS_n ?_
  refine wpS_ret ?_
  refine fin1 (M := [cel b_1 213 [.slice a n c]]) (v := .func (.func 233) #[] #[.pointer (some ⟨b_1, 0, none⟩)]) (.inr rfl) (.p .h .nil) Try.results190 rfl ?_
  exact fun w' hs => ⟨b_1, rfl, hs, trivial⟩

theorem allL_it (b : Nat) (a : Option Addr) (n c : Nat) (vs : List Let) (w : World) (hb : w.cell? ⟨b, 0, none⟩ = some (.slice a n c)) (hn : vs.length = n) (hr : Rds w a (vs.flatMap letV)) (hbn : n ≤ 1000000) : Iter Try.prog 233 #[.pointer (some ⟨b, 0, none⟩)] (fun k => #[.int .i64 ((k : Nat) : Int), .agg #[.int .i64 (((vs.getD k default)).to), .slice (((vs.getD k default)).a) (((vs.getD k default)).n) (((vs.getD k default)).c)]]) (n) (fun z => z = b ∨ 0 < vs.length ∧ z = aB a) w := by
  intro yv I E A hrd hI hA hY
  show Calls Try.prog 233 #[yv, .pointer (some ⟨b, 0, none⟩)] w _
  refine calls_S (n := 18) (σ0 := (upd (upd fr0 0 (yv)) 1 (.pointer (some ⟨b, 0, none⟩)))) (D := (A.flatMap Res.fp)) (A := A) Try.func233 rfl Try.ntmps233 rfl (a2_fr _ _) hA ?_
  refine wpS_seq ?_
  refine wpS_region ?_
  refine s_y (v := .slice a n c) (y_load1 (v := .slice a n c) rfl Try.isAgg213 (old1 hb (hrd _ (.inl rfl)))) rfl ?_
  refine s_y (v := .int .i64 (((n : Nat) : Int))) (y_len (ty' := 0) (at_ := #[]) rfl Try.underlying213) rfl ?_
  refine s_y (v := .int .i64 0) (y_move rfl) rfl ?_
  refine wpL_nil ?_
  refine thenS_n ?_
  refine wpS_block ?_
  refine wpS_loop (fun mez ds σ L => ∃ i : Nat, ∃ A1 : List Res, mez = n - i ∧ (i ≤ n) ∧ (I i A1) ∧ ds = [] ∧ σ 0 = yv ∧ σ 5 = .slice a n c ∧ σ 6 = .int .i64 (((n : Nat) : Int)) ∧ σ 7 = .int .i64 (((i : Nat) : Int)) ∧ Ent L (A1)) (m0 := n - 0) ⟨0, A, rfl, by omega, hI, rfl, rfl, rfl, rfl, rfl, (Ent.refl _)⟩ ?_
  rintro mez ds σ L ⟨i, A1, hm_1, hf0_1, hf1_1, rfl, h0_1, h5_1, h6_1, h7_1, hE_1⟩
  refine wpS_ent hE_1 ?_; clear hE_1
  refine wpS_seq ?_
  refine wpS_region ?_
  refine s_y (v := .bool (decide (i < n))) (y_lss (a := ((i : Nat) : Int)) (b := ((n : Nat) : Int)) (c := decide (i < n)) h7_1 h6_1 (decide_eq_decide.2 (by omega))) rfl ?_
  refine wpL_nil ?_
  refine thenS_n ?_
  refine wpS_seq ?_
  refine wpS_cond (t := decide (i < n)) rfl (fun b2 => ?_) (fun b2 => ?_)
  · -- decide (i < n) true
    have p2 := of_decide_eq_true b2
    refine wpS_skip ?_
    refine thenS_n ?_
    refine wpS_seq ?_
    refine wpS_block ?_
    refine wpS_seq ?_
    refine wpS_region ?_
    refine s_y (v := .int .i64 (((i : Nat) : Int))) (y_move h7_1) rfl ?_
    refine s_y (v := .pointer (some ⟨aB a, aO a + i * 2, none⟩)) (y_idx (o := i * 2) h5_1 h7_1 Try.underlying213 Try.sizeOf218 (oldRD' hr (fun hl => hrd _ (.inr ⟨fl_pos' letV_len hl, rfl⟩))) ((fl_len letV_len _).trans (by first | omega | (simp only [List.length_set, List.length_take, List.length_drop]; done) | (simp only [List.length_set, List.length_take, List.length_drop]; omega))) (by decide) (by omega) (by omega) (by omega)) rfl ?_
    refine s_y (v := .agg #[.int .i64 ((vs.getD i default).to), .slice ((vs.getD i default).a) ((vs.getD i default).n) ((vs.getD i default).c)]) (y_loadN (vs := letV (vs.getD i default)) rfl Try.isAgg218 Try.sizeOf218 (rdN (oldRD' hr (fun hl => hrd _ (.inr ⟨fl_pos' letV_len hl, rfl⟩))) (fl_getN letV_len vs i (by first | omega | (simp only [List.length_set, List.length_take, List.length_drop]; done) | (simp only [List.length_set, List.length_take, List.length_drop]; omega))))) rfl ?_
    refine s_e rfl ?_
    refine e_alloc (l := [.int .i64 0, .slice none 0 0]) Try.zeroValue218 rfl ?_
    intro b_3
    refine s_y (v := .int .i64 (((i : Nat) : Int))) (y_assign rfl) rfl ?_
    refine s_e0 ?_
    refine e_store (vs := [.int .i64 ((vs.getD i default).to), .slice ((vs.getD i default).a) ((vs.getD i default).n) ((vs.getD i default).c)]) (l' := [.int .i64 ((vs.getD i default).to), .slice ((vs.getD i default).a) ((vs.getD i default).n) ((vs.getD i default).c)]) rfl rfl rfl rfl Try.sizeOf218 .h (Nat.le_of_ble_eq_true rfl) rfl ?_
    refine wpL_nil ?_
    refine thenS_n ?_
    refine wpS_seq ?_
    refine wpS_region ?_
    refine s_y (v := yv) (y_move h0_1) rfl ?_
    refine s_y (v := .int .i64 (((i : Nat) : Int))) (y_move rfl) rfl ?_
    refine s_y (v := .agg #[.int .i64 ((vs.getD i default).to), .slice ((vs.getD i default).a) ((vs.getD i default).n) ((vs.getD i default).c)]) (y_loadN (vs := [.int .i64 ((vs.getD i default).to), .slice ((vs.getD i default).a) ((vs.getD i default).n) ((vs.getD i default).c)]) rfl Try.isAgg218 Try.sizeOf218 (ownN .h rfl)) rfl ?_
    refine s_e rfl ?_
    refine e_yield (own := [cel b_3 218 [.int .i64 ((vs.getD i default).to), .slice ((vs.getD i default).a) ((vs.getD i default).n) ((vs.getD i default).c)]]) (A := A1) (enc := (fun k => #[.int .i64 ((k : Nat) : Int), .agg #[.int .i64 (((vs.getD k default)).to), .slice (((vs.getD k default)).a) (((vs.getD k default)).n) (((vs.getD k default)).c)]])) (k := i) hY rfl (ev2 rfl rfl) (by omega) (by assumption) ?_ ?_
    · intro A_4 hI_5
      refine s_y (v := .bool false) (y_notK (b := true) (c := false) rfl rfl) rfl ?_
      refine wpL_nil ?_
      refine thenS_n ?_
      refine wpS_cond_f rfl ?_
      refine wpS_skip ?_
      refine blockS_n ?_
      refine thenS_n ?_
      refine wpS_region ?_
      refine s_y (v := .int .i64 ((((i + 1) : Nat) : Int))) (y_add (a := ((i : Nat) : Int)) (b := 1) (c := (((i + 1) : Nat) : Int)) h7_1 rfl (wI (by omega) (by omega) (by omega))) rfl ?_
      refine s_y (v := .int .i64 ((((i + 1) : Nat) : Int))) (y_move rfl) rfl ?_
      refine wpL_nil ?_
      refine thenS_n ?_
      exact ⟨_, by omega, ⟨(i + 1), A_4, rfl, by omega, hI_5, rfl, h0_1, h5_1, h6_1, rfl, (Ent.skip _ (Ent.refl _))⟩⟩
    · intro A_6 hI_7
      refine s_y (v := .bool true) (y_notK (b := false) (c := true) rfl rfl) rfl ?_
      refine wpL_nil ?_
      refine thenS_n ?_
      refine wpS_cond_t rfl ?_
      refine wpS_ret ?_
      refine blockS_r ?_
      refine thenS_r ?_
      refine thenS_r ?_
      refine blockS_r ?_
      exact fin0 (.inr rfl) ((Ent.skip _ (Ent.refl _))) Try.results233 (fun w' hs => ⟨rfl, A_6, hs, .inr ⟨i, by omega, hI_7⟩⟩)
  · -- decide (i < n) false
    have p2 := of_decide_eq_false b2
    refine wpS_exit ?_
    refine thenS_x ?_
    refine thenS_x ?_
    refine blockS_h ?_
    exact fin0 (.inl rfl) ((Ent.refl _)) Try.results233 (fun w' hs => ⟨rfl, A1, hs, .inl (by rw [show n = i by omega]; assumption)⟩)

theorem allL_at (b : Nat) (a : Option Addr) (n c : Nat) (vs : List Let) (w : World) (hb : w.cell? ⟨b, 0, none⟩ = some (.slice a n c)) (hn : vs.length = n) (hr : Rds w a (vs.flatMap letV)) (hbn : n ≤ 1000000) :
    IterAt Try.prog 233 #[.pointer (some ⟨b, 0, none⟩)] (fun k => #[.int .i64 ((k : Nat) : Int), .agg #[.int .i64 (((vs.getD k default)).to), .slice (((vs.getD k default)).a) (((vs.getD k default)).n) (((vs.getD k default)).c)]]) n (fun z => z = b ∨ 0 < vs.length ∧ z = aB a) w :=
  ⟨fun w' hs => allL_it b a n c vs w' (cell_old hb hs) hn (hr.below (SH.below hs)) hbn, by
    rintro z (rfl | ⟨hl, rfl⟩)
    · exact cell_lt hb
    · exact rdBlk hr (fl_pos letV_len (by decide) hl)⟩

theorem take_c (wb : Nat) (ua : Option Addr) (uc : Nat) (ba : Option Addr) (bc : Nat) (us bs : List Let) (t : Int) (w : World) (hul : us.length ≤ 100000) (hbl : bs.length ≤ 100000) (hlo : LOK bs) (hA : SH w (([cel wb 215 [.slice ua us.length uc, .slice ba bs.length bc], osl ua uc us.length 2 218 (us.flatMap letV), osl ba bc bs.length 2 218 (bs.flatMap letV), famb (us ++ bs)] : List Res).flatMap Res.fp) [cel wb 215 [.slice ua us.length uc, .slice ba bs.length bc], osl ua uc us.length 2 218 (us.flatMap letV), osl ba bc bs.length 2 218 (bs.flatMap letV), famb (us ++ bs)] w) : Calls Try.prog 109 #[.pointer (some ⟨wb, 0, none⟩), .int .i64 t] w (fun e w' => ∃ x : (((Option Addr × Nat) × (Option Addr × Nat)) × (Option Addr × Nat)), e = .returned (.tuple #[slV (tkD t bs) x.2, .bool (decide (fdT t bs < bs.length))]) ∧ SH w (([cel wb 215 [.slice ua us.length uc, .slice ba bs.length bc], osl ua uc us.length 2 218 (us.flatMap letV), osl ba bc bs.length 2 218 (bs.flatMap letV), famb (us ++ bs)] : List Res).flatMap Res.fp) [cel wb 215 [.slice x.1.1.1 us.length x.1.1.2, .slice x.1.2.1 ((tkB t bs).length) x.1.2.2], osl x.1.1.1 x.1.1.2 us.length 2 218 (us.flatMap letV), osl x.1.2.1 x.1.2.2 ((tkB t bs).length) 2 218 ((tkB t bs).flatMap letV), famb (us ++ (tkB t bs)), osl x.2.1 x.2.2 ((tkD t bs).length) 1 5 ((tkD t bs).flatMap byteV)] w') := by
  refine calls_S (n := 36) (σ0 := (upd (upd fr0 0 (.pointer (some ⟨wb, 0, none⟩))) 1 (.int .i64 t))) (D := (([cel wb 215 [.slice ua us.length uc, .slice ba bs.length bc], osl ua uc us.length 2 218 (us.flatMap letV), osl ba bc bs.length 2 218 (bs.flatMap letV), famb (us ++ bs)] : List Res).flatMap Res.fp)) (A := [cel wb 215 [.slice ua us.length uc, .slice ba bs.length bc], osl ua uc us.length 2 218 (us.flatMap letV), osl ba bc bs.length 2 218 (bs.flatMap letV), famb (us ++ bs)]) Try.func109 rfl Try.ntmps109 rfl (a2_fr _ _) hA ?_
  have hlk : ∀ {k}, k < bs.length → (bs.getD k default).d.length = (bs.getD k default).n ∧ (bs.getD k default).n ≤ 1000000 := fun h => hlo _ (getL_mem h)
  refine wpS_seq ?_
  refine wpS_region ?_
  refine s_e rfl ?_
  refine e_box (v := .pointer (some ⟨wb, 0, none⟩)) (l := [.pointer (some ⟨wb, 0, none⟩)]) rfl rfl ?_
  intro b_1
  refine s_e rfl ?_
  refine e_box (v := .int .i64 t) (l := [.int .i64 t]) rfl rfl ?_
  intro b_2
  refine s_e rfl ?_
  refine e_alloc (l := [.slice none 0 0]) Try.zeroValue61 rfl ?_
  intro b_3
  refine s_e rfl ?_
  refine e_alloc (l := [.bool false]) Try.zeroValue4 rfl ?_
  intro b_4
  refine wpL_nil ?_
  refine thenS_n ?_
  refine wpS_seq ?_
  refine wpS_seq ?_
  refine wpS_region ?_
  refine s_y (v := .pointer (some ⟨wb, 0, none⟩)) (y_load1 rfl Try.isAgg125 (own1 (.t (.t (.t .h))) rfl)) rfl ?_
  refine s_y (v := .bool false) (y_ptrEq rfl rfl Try.underlying125 (by kernel_rfl) rfl) rfl ?_
  refine wpL_nil ?_
  refine thenS_n ?_
  refine wpS_cond_f rfl ?_
  refine wpS_skip ?_
  refine thenS_n ?_
  refine wpS_seq ?_
  refine wpS_seq ?_
  refine wpS_region ?_
  refine s_y (v := .pointer (some ⟨wb, 0, none⟩)) (y_load1 rfl Try.isAgg125 (own1 (.t (.t (.t .h))) rfl)) rfl ?_
  refine s_y (v := .pointer (some ⟨wb, 0, none⟩)) (y_nilP rfl) rfl ?_
  refine s_y (v := .pointer (some ⟨wb, 1, none⟩)) (y_fieldAddr (o' := 1) rfl Try.underlying215 rfl Try.sizeOf213 (by decide) rfl) rfl ?_
  refine s_y (v := .slice ba bs.length bc) (y_load1 rfl Try.isAgg213 (own1 (.t (.t (.t (.t .h)))) rfl)) rfl ?_
  refine s_e rfl ?_
  refine e_call (f := 190) (args := #[.slice ba bs.length bc]) (X := Nat) (A := []) (M := [cel b_4 4 [.bool false], cel b_3 61 [.slice none 0 0], cel b_2 3 [.int .i64 t], cel b_1 125 [.pointer (some ⟨wb, 0, none⟩)], cel wb 215 [.slice ua us.length uc, .slice ba bs.length bc], osl ua uc us.length 2 218 (us.flatMap letV), osl ba bc bs.length 2 218 (bs.flatMap letV), famb (us ++ bs)]) (V := fun x : Nat => .func (.func 233) #[] #[.pointer (some ⟨x, 0, none⟩)]) (A' := fun x : Nat => [cel x 213 [.slice ba bs.length bc]]) (C := fun _ => True) Try.call190 (ev1 rfl) (.p .h (.p .h (.p .h (.p .h (.p .h (.p .h (.p .h (.p .h .nil)))))))) (fun w hs => allL_c ba bs.length bc w) ?_
  rintro b_5 -
  refine wpL_nil ?_
  refine thenS_n ?_
  refine wpS_block ?_
  refine wpS_nil0 1 5 ?_
  refine wpS_nil0 2 218 ?_
  refine wpS_rangeFunc (f := 233) (cap := #[.pointer (some ⟨b_5, 0, none⟩)]) (enc := fun k => #[.int .i64 ((k : Nat) : Int), .agg #[.int .i64 (((bs.getD k default)).to), .slice (((bs.getD k default)).a) (((bs.getD k default)).n) (((bs.getD k default)).c)]]) (N := bs.length) (rd := fun z => z = b_5 ∨ 0 < bs.length ∧ z = aB ba) (A := [osl none 0 0 2 218 (([] : List Let).flatMap letV), osl none 0 0 1 5 (([] : List UInt8).flatMap byteV), cel b_4 4 [.bool false], cel b_3 61 [.slice none 0 0], cel b_2 3 [.int .i64 t], cel b_1 125 [.pointer (some ⟨wb, 0, none⟩)], cel wb 215 [.slice ua us.length uc, .slice ba bs.length bc], osl ua uc us.length 2 218 (us.flatMap letV), famb (us ++ bs)]) (M := [cel b_5 213 [.slice ba bs.length bc], osl ba bc bs.length 2 218 (bs.flatMap letV)]) (fun k A => (NoT t bs k) ∧ A = [osl none 0 0 2 218 (([] : List Let).flatMap letV), osl none 0 0 1 5 (([] : List UInt8).flatMap byteV), cel b_4 4 [.bool false], cel b_3 61 [.slice none 0 0], cel b_2 3 [.int .i64 t], cel b_1 125 [.pointer (some ⟨wb, 0, none⟩)], cel wb 215 [.slice ua us.length uc, .slice ba bs.length bc], osl ua uc us.length 2 218 (us.flatMap letV), famb (us ++ bs)]) (fun k e A => (e = Exit.ret ∧ (∃ b1 : Option Addr, ∃ d1 : Nat, ∃ ya : Option Addr, ∃ yc : Nat, (NoT t bs k) ∧ (k < bs.length) ∧ ((bs.getD k default).to = t) ∧ A = [osl b1 d1 ((cutL bs k).length) 2 218 ((cutL bs k).flatMap letV), osl ya yc (((bs.getD k default).d).length) 1 5 (((bs.getD k default).d).flatMap byteV), cel b_4 4 [.bool true], cel b_3 61 [.slice ya ((bs.getD k default).d.length) yc], cel b_2 3 [.int .i64 t], cel b_1 125 [.pointer (some ⟨wb, 0, none⟩)], cel wb 215 [.slice ua us.length uc, .slice b1 ((cutL bs k).length) d1], osl ua uc us.length 2 218 (us.flatMap letV), famb (us ++ (cutL bs k))]))) rfl Try.call233 (by kernel_rfl) (fun _ => rfl) (.p .h (.p .h (.p (.t .h) (.p (.t .h) (.p (.t .h) (.p (.t .h) (.p (.t .h) (.p (.t .h) (.p (.t (.t .h)) (.p .h (.p .h .nil))))))))))) ⟨(noT_0 t bs), rfl⟩ (fun w hs => (allL_at b_5 ba bs.length bc bs w (own1 (.t (.t (.t (.t (.t (.t (.t (.t (.t .h))))))))) rfl w hs) rfl (oslR (.t (.t (.t (.t (.t (.t (.t (.t (.t (.t .h)))))))))) w hs) (by omega)).it) (fun w hs b hb => by rcases hb with rfl | ⟨hl, rfl⟩; exact apM (A := [osl none 0 0 2 218 (([] : List Let).flatMap letV), osl none 0 0 1 5 (([] : List UInt8).flatMap byteV), cel b_4 4 [.bool false], cel b_3 61 [.slice none 0 0], cel b_2 3 [.int .i64 t], cel b_1 125 [.pointer (some ⟨wb, 0, none⟩)], cel wb 215 [.slice ua us.length uc, .slice ba bs.length bc], osl ua uc us.length 2 218 (us.flatMap letV), famb (us ++ bs)]) hs .h (by simp [cel, blk]); exact apM (A := [osl none 0 0 2 218 (([] : List Let).flatMap letV), osl none 0 0 1 5 (([] : List UInt8).flatMap byteV), cel b_4 4 [.bool false], cel b_3 61 [.slice none 0 0], cel b_2 3 [.int .i64 t], cel b_1 125 [.pointer (some ⟨wb, 0, none⟩)], cel wb 215 [.slice ua us.length uc, .slice ba bs.length bc], osl ua uc us.length 2 218 (us.flatMap letV), famb (us ++ bs)]) hs (.t .h) (osl_blk (hs.ok _ (List.mem_append_right _ ((Pick.perm (show Pick [cel b_5 213 [.slice ba bs.length bc], osl ba bc bs.length 2 218 (bs.flatMap letV)] _ _ from (.t .h))).mem_iff.2 List.mem_cons_self))) (fl_pos letV_len (by decide) hl))) ?_ ?_ ?_
  · -- a round
    rintro k A' hk_6 ⟨hf0_6, rfl⟩ w_6 l_6 hs_6
    refine wpS_seq ?_
    refine wpS_region ?_
    refine s_y (v := .int .i64 (((k : Nat) : Int))) (y_assign rfl) rfl ?_
    refine wpL_nil ?_
    refine thenS_n ?_
    refine wpS_region ?_
    refine s_e rfl ?_
    refine e_alloc (l := [.int .i64 0, .slice none 0 0]) Try.zeroValue218 rfl ?_
    intro b_7
    refine s_e0 ?_
    refine e_store (vs := [.int .i64 (((bs.getD k default)).to), .slice (((bs.getD k default)).a) (((bs.getD k default)).n) (((bs.getD k default)).c)]) (l' := [.int .i64 (((bs.getD k default)).to), .slice (((bs.getD k default)).a) (((bs.getD k default)).n) (((bs.getD k default)).c)]) rfl rfl rfl rfl Try.sizeOf218 .h (Nat.le_of_ble_eq_true rfl) rfl ?_
    refine wpL_nil ?_
    refine asg_n fun w2_6 hs2_6 => ?_
    have hkd8 := fun L' => oldRD' (L := L') (oslR (.t (.t (.t (.t (.t (.t (.t (.t (.t (.t (.t .h))))))))))) w2_6 hs2_6) (fun hl => (show _ ∧ _ from apM (A := [cel b_7 218 [.int .i64 (((bs.getD k default)).to), .slice (((bs.getD k default)).a) (((bs.getD k default)).n) (((bs.getD k default)).c)], osl none 0 0 2 218 (([] : List Let).flatMap letV), osl none 0 0 1 5 (([] : List UInt8).flatMap byteV), cel b_4 4 [.bool false], cel b_3 61 [.slice none 0 0], cel b_2 3 [.int .i64 t], cel b_1 125 [.pointer (some ⟨wb, 0, none⟩)], cel wb 215 [.slice ua us.length uc, .slice ba bs.length bc], osl ua uc us.length 2 218 (us.flatMap letV), famb (us ++ bs)]) hs2_6 (.t .h) (osl_blk (hs2_6.ok _ (List.mem_append_right _ ((Pick.perm (show Pick [cel b_5 213 [.slice ba bs.length bc], osl ba bc bs.length 2 218 (bs.flatMap letV)] _ _ from (.t .h))).mem_iff.2 List.mem_cons_self))) (fl_pos letV_len (by decide) (fl_pos' letV_len hl)))).2)
    refine wpS_block ?_
    refine wpS_seq ?_
    refine wpS_region ?_
    refine s_y (v := .pointer (some ⟨b_7, 0, none⟩)) (y_fieldAddr (o' := 0) rfl Try.underlying218 rfl Try.sizeOf3 (by decide) rfl) rfl ?_
    refine s_y (v := .int .i64 (((bs.getD k default)).to)) (y_load1 rfl Try.isAgg3 (own1 .h rfl)) rfl ?_
    refine s_y (v := .int .i64 t) (y_load1 rfl Try.isAgg3 (own1 (.t (.t (.t (.t (.t .h))))) rfl)) rfl ?_
    refine s_y (v := .bool (decide ((((bs.getD k default)).to : Int) = t))) (y_eql (a := ((bs.getD k default)).to) (b := t) rfl rfl rfl) rfl ?_
    refine wpL_nil ?_
    refine thenS_n ?_
    refine wpS_cond (t := decide ((((bs.getD k default)).to : Int) = t)) rfl (fun b9 => ?_) (fun b9 => ?_)
    · -- decide ((((bs.getD k default)).to : Int) = t) true
      have p9 := of_decide_eq_true b9
      refine wpS_seq ?_
      refine wpS_anyL [cel b_1 125 [.pointer (some ⟨wb, 0, none⟩)]] [] (by kernel_rfl) ?_
      refine anyS_take (i := 0) rfl (by kernel_rfl) (by kernel_rfl) (by kernel_rfl) (by kernel_rfl) (Yq.of (v := .pointer (some ⟨wb, 0, none⟩)) (y_load1 rfl Try.isAgg125 (own1 .h rfl)) rfl) (.p (.t (.t (.t (.t (.t (.t .h)))))) .nil) ?_
      refine anyS_take (i := 1) rfl (by kernel_rfl) (by kernel_rfl) (by kernel_rfl) (by kernel_rfl) (Yq.of (v := .pointer (some ⟨wb, 0, none⟩)) (y_load1 rfl Try.isAgg125 (own1 .h rfl)) rfl) (.p (.t (.t (.t (.t (.t (.t .h)))))) .nil) ?_
      refine anyS_take (i := 2) rfl (by kernel_rfl) (by kernel_rfl) (by kernel_rfl) (by kernel_rfl) (Yq.of (v := .pointer (some ⟨wb, 0, none⟩)) (y_nilP rfl) rfl) (.p (.t (.t (.t (.t (.t (.t .h)))))) .nil) ?_
      refine anyS_take (i := 3) rfl (by kernel_rfl) (by kernel_rfl) (by kernel_rfl) (by kernel_rfl) (Yq.of (v := .pointer (some ⟨wb, 1, none⟩)) (y_fieldAddr (o' := 1) rfl Try.underlying215 rfl Try.sizeOf213 (by decide) rfl) rfl) (.p (.t (.t (.t (.t (.t (.t .h)))))) .nil) ?_
      refine anyS_take (i := 6) rfl (by kernel_rfl) (by kernel_rfl) (by kernel_rfl) (by kernel_rfl) (Yq.of (v := .int .i64 (((k : Nat) : Int))) (y_move rfl) rfl) (.p (.t (.t (.t (.t (.t (.t .h)))))) .nil) ?_
      refine anyS_take (i := 7) rfl (by kernel_rfl) (by kernel_rfl) (by kernel_rfl) (by kernel_rfl) (Yq.of (v := .int .i64 (((k : Nat) : Int))) (y_move rfl) rfl) (.p (.t (.t (.t (.t (.t (.t .h)))))) .nil) ?_
      refine anyS_take (i := 8) rfl (by kernel_rfl) (by kernel_rfl) (by kernel_rfl) (by kernel_rfl) (Yq.of (v := .int .i64 ((((k + 1) : Nat) : Int))) (y_add (a := ((k : Nat) : Int)) (b := 1) (c := (((k + 1) : Nat) : Int)) rfl rfl (wI (by omega) (by omega) (by omega))) rfl) (.p (.t (.t (.t (.t (.t (.t .h)))))) .nil) ?_
      refine anyS_all (rs := [4]) (by kernel_rfl) (by simp) ?_
      intro i hi; obtain rfl := List.mem_singleton.1 hi; clear hi
      refine opS_0 rfl rfl ?_
      refine OpE.y (v := .slice ba bs.length bc) (y_load1 rfl Try.isAgg213 (own1 (.t (.t (.t (.t (.t (.t (.t .h))))))) rfl)) ?_
      refine ⟨.inr (.p (.t (.t (.t (.t (.t (.t .h)))))) .nil), ?_⟩
      refine anyS_all (rs := [5]) (by kernel_rfl) (by simp) ?_
      intro i hi; obtain rfl := List.mem_singleton.1 hi; clear hi
      refine opS_0 rfl rfl ?_
      refine e_call (f := 192) (args := #[.slice ba bs.length bc]) (X := Option Addr × Nat) (A := []) (M := [cel b_7 218 [.int .i64 (((bs.getD k default)).to), .slice (((bs.getD k default)).a) (((bs.getD k default)).n) (((bs.getD k default)).c)], osl none 0 0 2 218 (([] : List Let).flatMap letV), osl none 0 0 1 5 (([] : List UInt8).flatMap byteV), cel b_4 4 [.bool false], cel b_3 61 [.slice none 0 0], cel b_2 3 [.int .i64 t], cel b_1 125 [.pointer (some ⟨wb, 0, none⟩)], cel wb 215 [.slice ua us.length uc, .slice ba bs.length bc], osl ua uc us.length 2 218 (us.flatMap letV), famb (us ++ bs)]) (V := slV bs) (A' := fun x => [slR letV 2 218 bs x]) (C := fun x => bs.length ≤ x.2) Try.call192 (ev1 rfl) (.p .h (.p .h (.p .h (.p .h (.p .h (.p .h (.p .h (.p .h (.p .h (.p .h .nil)))))))))) (fun w hs => (cloneL_c ba bs.length bc bs w (by omega) ((hkd8 _) w hs) (by omega)).cap) ?_
      rintro ⟨a_10, c_11⟩ hc12; replace hc12 : bs.length ≤ c_11 := hc12
      refine ⟨.inr (.p (.t (.t (.t (.t (.t (.t (.t .h))))))) .nil), ?_⟩
      refine anyS_all (rs := [9]) (by kernel_rfl) (by simp) ?_
      intro i hi; obtain rfl := List.mem_singleton.1 hi; clear hi
      refine opS_0 rfl rfl ?_
      refine e_call (f := 191) (args := #[.slice a_10 bs.length c_11, .int .i64 (((k : Nat) : Int)), .int .i64 ((((k + 1) : Nat) : Int))]) (X := Unit) (A := [osl a_10 c_11 bs.length 2 218 (bs.flatMap letV)]) (M := [cel b_7 218 [.int .i64 (((bs.getD k default)).to), .slice (((bs.getD k default)).a) (((bs.getD k default)).n) (((bs.getD k default)).c)], osl none 0 0 2 218 (([] : List Let).flatMap letV), osl none 0 0 1 5 (([] : List UInt8).flatMap byteV), cel b_4 4 [.bool false], cel b_3 61 [.slice none 0 0], cel b_2 3 [.int .i64 t], cel b_1 125 [.pointer (some ⟨wb, 0, none⟩)], cel wb 215 [.slice ua us.length uc, .slice ba bs.length bc], osl ua uc us.length 2 218 (us.flatMap letV), famb (us ++ bs)]) (V := fun _ => .slice a_10 (bs.length - 1) c_11) (A' := fun _ => [osl a_10 c_11 (bs.length - 1) 2 218 ((cutL bs k).flatMap letV)]) (C := fun _ => True) Try.call191 (ev3 rfl rfl rfl) (.p .h (.p .h (.p .h (.p .h (.p .h (.p .h (.p .h (.p .h (.p .h (.p .h (.p .h .nil))))))))))) (fun w hs => (delete_c a_10 bs.length c_11 k bs w (by first | rfl | omega) (by omega) (by omega) (SH.lendW hs)).mono (fun e w2 hx => ⟨(), hx.1, hx.2, trivial⟩)) ?_
      rintro ⟨⟩ -
      refine ⟨.inr (.p (.t (.t (.t (.t (.t (.t (.t .h))))))) .nil), ?_⟩
      refine anyS_take (i := 10) rfl (by kernel_rfl) (by kernel_rfl) (by kernel_rfl) (by kernel_rfl) (Yq.of (v := .pointer (some ⟨wb, 0, none⟩)) (y_nilP rfl) rfl) (.p (.t (.t (.t (.t (.t (.t (.t .h))))))) .nil) ?_
      refine anyS_take (i := 11) rfl (by kernel_rfl) (by kernel_rfl) (by kernel_rfl) (by kernel_rfl) (Yq.of (v := .pointer (some ⟨wb, 1, none⟩)) (y_fieldAddr (o' := 1) rfl Try.underlying215 rfl Try.sizeOf213 (by decide) rfl) rfl) (.p (.t (.t (.t (.t (.t (.t (.t .h))))))) .nil) ?_
      refine anyS_all (rs := [12]) (by kernel_rfl) (by simp) ?_
      intro i hi; obtain rfl := List.mem_singleton.1 hi; clear hi
      refine opS_0 rfl rfl ?_
      refine e_store (vs := [.slice a_10 (bs.length - 1) c_11]) (l' := [.slice ua us.length uc, .slice a_10 (bs.length - 1) c_11]) rfl rfl rfl rfl Try.sizeOf213 (.t (.t (.t (.t (.t (.t (.t (.t .h)))))))) (Nat.le_of_ble_eq_true rfl) rfl ?_
      refine ⟨.inr (.p (.t (.t (.t (.t (.t (.t (.t (.t .h)))))))) .nil), ?_⟩
      refine anyS_done (by kernel_rfl) ?_
      refine thenS_n ?_
      refine wpS_seq ?_
      refine wpS_region ?_
      refine s_y (v := .pointer (some ⟨b_7, 1, none⟩)) (y_fieldAddr (o' := 1) rfl Try.underlying218 rfl Try.sizeOf61 (by decide) rfl) rfl ?_
      refine s_y (v := .slice (((bs.getD k default)).a) (((bs.getD k default)).n) (((bs.getD k default)).c)) (y_load1 rfl Try.isAgg61 (own1 (.t (.t .h)) rfl)) rfl ?_
      have hln := hlk (k := k) (by omega)
      refine s_e rfl ?_
      refine e_call (f := 193) (args := #[.slice (((bs.getD k default)).a) (((bs.getD k default)).n) (((bs.getD k default)).c)]) (X := Option Addr × Nat) (A := []) (M := [cel wb 215 [.slice ua us.length uc, .slice a_10 (bs.length - 1) c_11], osl a_10 c_11 (bs.length - 1) 2 218 ((cutL bs k).flatMap letV), cel b_7 218 [.int .i64 (((bs.getD k default)).to), .slice (((bs.getD k default)).a) (((bs.getD k default)).n) (((bs.getD k default)).c)], osl none 0 0 2 218 (([] : List Let).flatMap letV), osl none 0 0 1 5 (([] : List UInt8).flatMap byteV), cel b_4 4 [.bool false], cel b_3 61 [.slice none 0 0], cel b_2 3 [.int .i64 t], cel b_1 125 [.pointer (some ⟨wb, 0, none⟩)], osl ua uc us.length 2 218 (us.flatMap letV), famb (us ++ bs)]) (V := slV ((bs.getD k default).d)) (A' := fun x => [slR byteV 1 5 ((bs.getD k default).d) x]) (C := fun x => ((bs.getD k default).d).length ≤ x.2) Try.call193 (ev1 rfl) (.p .h (.p .h (.p .h (.p .h (.p .h (.p .h (.p .h (.p .h (.p .h (.p .h (.p .h .nil))))))))))) (fun w hs => (cloneB_c (((bs.getD k default)).a) (((bs.getD k default)).n) (((bs.getD k default)).c) ((bs.getD k default).d) w (hlk (by omega)).1 ((famb_rd (.t (.t (.t (.t (.t (.t (.t (.t (.t (.t .h)))))))))) (List.mem_append_right _ (getL_mem (by omega)))) w hs) (by omega)).cap) ?_
      rintro ⟨a_13, c_14⟩ hc15; replace hc15 : ((bs.getD k default).d).length ≤ c_14 := hc15
      refine s_e0 ?_
      refine e_store (vs := [.slice a_13 (((bs.getD k default).d).length) c_14]) (l' := [.slice a_13 (((bs.getD k default).d).length) c_14]) rfl rfl rfl rfl Try.sizeOf61 (.t (.t (.t (.t (.t (.t (.t .h))))))) (Nat.le_of_ble_eq_true rfl) rfl ?_
      refine s_e0 ?_
      refine e_store (vs := [.bool true]) (l' := [.bool true]) rfl rfl rfl rfl Try.sizeOf4 (.t (.t (.t (.t (.t (.t (.t .h))))))) (Nat.le_of_ble_eq_true rfl) rfl ?_
      refine wpL_nil ?_
      refine thenS_n ?_
      refine wpS_ret ?_
      refine blockS_r ?_
      try rw [show bs.length - 1 = (cutL bs k).length from (cutL_len (by omega)).symm]
      exact rnd_r ⟨[osl a_10 c_11 ((cutL bs k).length) 2 218 ((cutL bs k).flatMap letV), osl a_13 c_14 (((bs.getD k default).d).length) 1 5 (((bs.getD k default).d).flatMap byteV), cel b_4 4 [.bool true], cel b_3 61 [.slice a_13 ((bs.getD k default).d.length) c_14], cel b_2 3 [.int .i64 t], cel b_1 125 [.pointer (some ⟨wb, 0, none⟩)], cel wb 215 [.slice ua us.length uc, .slice a_10 ((cutL bs k).length) c_11], osl ua uc us.length 2 218 (us.flatMap letV), famb (us ++ (cutL bs k))], .p (.t (.t (.t (.t .h)))) (.p (.t (.t .h)) (.p .h (.p .h (.p (.t (.t (.t (.t .h)))) (.p (.t (.t (.t (.t .h)))) (.p .h (.p (.t (.t (.t .h))) (.w (.t (.t (.t .h))) (famb_sub tk_sub) (.nil))))))))), ⟨rfl, ⟨a_10, c_11, a_13, c_14, (by assumption), (by omega), (by assumption), rfl⟩⟩⟩
    · -- decide ((((bs.getD k default)).to : Int) = t) false
      have p9 := of_decide_eq_false b9
      refine wpS_skip ?_
      refine blockS_n ?_
      try rw [show bs.length - 1 = (cutL bs k).length from (cutL_len (by omega)).symm]
      exact rnd_n ⟨[osl none 0 0 2 218 (([] : List Let).flatMap letV), osl none 0 0 1 5 (([] : List UInt8).flatMap byteV), cel b_4 4 [.bool false], cel b_3 61 [.slice none 0 0], cel b_2 3 [.int .i64 t], cel b_1 125 [.pointer (some ⟨wb, 0, none⟩)], cel wb 215 [.slice ua us.length uc, .slice ba bs.length bc], osl ua uc us.length 2 218 (us.flatMap letV), famb (us ++ bs)], .p (.t .h) (.p (.t .h) (.p (.t .h) (.p (.t .h) (.p (.t .h) (.p (.t .h) (.p (.t .h) (.p (.t .h) (.p (.t .h) .nil)))))))), ⟨(noT_step (by assumption) (by assumption)), rfl⟩⟩
  · -- behind
    rintro d_6 A' ⟨hf0_6, rfl⟩
    refine blockS_n ?_
    refine thenS_n ?_
    refine wpS_seq ?_
    refine wpS_region ?_
    refine s_e0 ?_
    refine e_store (vs := [.slice none 0 0]) (l' := [.slice none 0 0]) rfl rfl rfl rfl Try.sizeOf61 (.t (.t (.t (.t .h)))) (Nat.le_of_ble_eq_true rfl) rfl ?_
    refine s_e0 ?_
    refine e_store (vs := [.bool false]) (l' := [.bool false]) rfl rfl rfl rfl Try.sizeOf4 (.t (.t (.t (.t .h)))) (Nat.le_of_ble_eq_true rfl) rfl ?_
    refine wpL_nil ?_
    refine thenS_n ?_
    refine wpS_ret ?_
    refine fin2 (M := [cel b_3 61 [.slice none 0 0], cel b_4 4 [.bool false], cel wb 215 [.slice ua us.length uc, .slice ba bs.length bc], osl ua uc us.length 2 218 (us.flatMap letV), osl ba bc bs.length 2 218 (bs.flatMap letV), famb (us ++ bs)]) (.inr rfl) (.p (.t (.t .h)) (.p (.t .h) (.p .h (.p (.t (.t (.t (.t .h)))) (.p (.t (.t (.t (.t .h)))) (.p (.t (.t (.t (.t (.t (.t .h)))))) (.p (.t (.t (.t (.t .h)))) .nil))))))) Try.results109 (rvC1 (v := .slice none 0 0) rfl Try.isAgg61 (fun w hs => own1 .h rfl w hs)) (rvC1 (v := .bool false) rfl Try.isAgg4 (fun w hs => own1 (.t .h) rfl w hs)) ?_
    obtain ⟨e1, e2, e3⟩ : tkB t bs = bs ∧ tkD t bs = [] ∧ decide (fdT t bs < bs.length) = false := tk_0 (k := bs.length) (by assumption) (by omega)
    exact fun w' hs => ⟨(((ua, uc), (ba, bc)), (none, 0)), by rw [e2, e3]; rfl, by rw [e1, e2]; exact (SH.nil0 (sz := 1) (t := 5) w' hs).ent (.p (.t (.t (.t .h))) (.p (.t (.t (.t .h))) (.p (.t (.t (.t .h))) (.p (.t (.t (.t .h))) (.p .h .nil)))))⟩
  · -- left
    rintro d_16 k e A' hk_6 (⟨rfl, b1, d1, ya, yc, hx0_6, hx1_6, hx2_6, rfl⟩)
    refine blockS_r ?_
    refine thenS_r ?_
    refine fin2 (M := [cel b_3 61 [.slice ya ((bs.getD k default).d.length) yc], cel b_4 4 [.bool true], cel wb 215 [.slice ua us.length uc, .slice b1 ((cutL bs k).length) d1], osl ua uc us.length 2 218 (us.flatMap letV), osl b1 d1 ((cutL bs k).length) 2 218 ((cutL bs k).flatMap letV), famb (us ++ (cutL bs k)), osl ya yc (((bs.getD k default).d).length) 1 5 (((bs.getD k default).d).flatMap byteV)]) (.inr rfl) (.p .h (.p (.t (.t (.t .h))) (.p (.t (.t .h)) (.p (.t (.t (.t (.t .h)))) (.p (.t (.t (.t (.t .h)))) (.p .h (.p (.t (.t (.t .h))) (.p .h .nil)))))))) Try.results109 (rvC1 (v := .slice ya ((bs.getD k default).d.length) yc) rfl Try.isAgg61 (fun w hs => own1 .h rfl w hs)) (rvC1 (v := .bool true) rfl Try.isAgg4 (fun w hs => own1 (.t .h) rfl w hs)) ?_
    obtain ⟨e1, e2, e3⟩ : tkB t bs = (cutL bs k) ∧ tkD t bs = (bs.getD k default).d ∧ decide (fdT t bs < bs.length) = true := tk_1 (by assumption) (by omega) (by assumption)
    exact fun w' hs => ⟨(((ua, uc), (b1, d1)), (ya, yc)), by rw [e2, e3], by rw [e1, e2]; exact hs.ent (.p (.t (.t .h)) (.p (.t (.t .h)) (.p (.t (.t .h)) (.p (.t (.t .h)) (.p (.t (.t .h)) .nil)))))⟩

end Go.Proofs.Ytldkjjnjdjfipaa
