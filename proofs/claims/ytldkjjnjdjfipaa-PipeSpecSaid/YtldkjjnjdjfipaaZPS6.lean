/- RPspec: a part of it: what its walk and its plain law need. -/
import Derived.WalkKit
import Derived.WalkSpells
import Derived.WalkLawsBesides
import Derived.TacticsIn
import Derived.OrdersIn
import Derived.RangeFuncIn
import Derived.RangeFuncLeaves
import Derived.RangeFuncRecord
import Derived.KernelRfl
import Derived.Maps.AppendAt
import Derived.Laws.Cover3
import Derived.Laws.MakeOwn
import Derived.Test.YtldkjjnjdjfipaaRows
import Derived.ChangeKeysEq
import Derived.Test.YtldkjjnjdjfipaaZPS5
namespace Go.Proofs.Ytldkjjnjdjfipaa
open Go Go.RowKit
set_option linter.unusedVariables false
set_option linter.unusedSimpArgs false
set_option maxRecDepth 10000
set_option maxHeartbeats 1000000
theorem step_e1 {q : Int64} {m : Mach} {o : Opc} (h : o.o0 = 12) (hc : m.r.getD o.o4.toNat 0 = 0) : stepM q m o = ⟨m.r, m.s.set o.o5.toInt.toNat deadR⟩ := by
  unfold stepM
  rw [if_pos h]
  congr 2
  unfold emitR rg
  rw [if_pos hc]
  rfl
theorem step_e2 {q : Int64} {m : Mach} {o : Opc} (h : o.o0 = 12) (hc : ¬ m.r.getD o.o4.toNat 0 = 0) : stepM q m o = ⟨m.r, (m.s.set o.o5.toInt.toNat deadR).set o.o5.toInt.toNat ⟨false, m.r.getD o.o2.toNat 0, m.r.getD o.o3.toNat 0, q + o.o5⟩⟩ := by
  unfold stepM
  rw [if_pos h, List.set_set]
  congr 2
  unfold emitR rg
  rw [if_neg hc]
@[reducible] def arrV (Rg : List Int64) : List Value := [.int .i64 (Rg.getD 0 0).toInt, .int .i64 (Rg.getD 1 0).toInt, .int .i64 (Rg.getD 2 0).toInt, .int .i64 (Rg.getD 3 0).toInt, .int .i64 (Rg.getD 4 0).toInt, .int .i64 (Rg.getD 5 0).toInt, .int .i64 (Rg.getD 6 0).toInt, .int .i64 (Rg.getD 7 0).toInt]
theorem arr_get {Rg : List Int64} {i : Nat} (h : i < 8) : (arrV Rg)[0 + i * 1]? = some (.int .i64 (Rg.getD i 0).toInt) := by
  match i, h with
  | 0, _ => rfl
  | 1, _ => rfl
  | 2, _ => rfl
  | 3, _ => rfl
  | 4, _ => rfl
  | 5, _ => rfl
  | 6, _ => rfl
  | 7, _ => rfl
theorem arr_set {Rg R2 : List Int64} (hR : Rg.length = 8) {i : Nat} (h : i < 8) {v : Int64} (h2 : Rg.set i v = R2) : (arrV Rg).take (0 + i * 1) ++ [.int .i64 v.toInt] ++ (arrV Rg).drop (0 + i * 1 + [Value.int .i64 v.toInt].length) = arrV R2 := by
  subst h2
  match Rg, hR with
  | [r0, r1, r2, r3, r4, r5, r6, r7], _ =>
    match i, h with
    | 0, _ => rfl
    | 1, _ => rfl
    | 2, _ => rfl
    | 3, _ => rfl
    | 4, _ => rfl
    | 5, _ => rfl
    | 6, _ => rfl
    | 7, _ => rfl
theorem rone_c (b : Bool) (w : World) : Pure Try.prog 242 #[.bool b] w (.int .i64 ((one64 b).toInt)) := by
 refine calls_S (n := 4) (σ0 := (upd fr0 0 (.bool b))) (D := []) (A := []) Try.func242 rfl Try.ntmps242 rfl (a1_fr _) (SH.start w) ?_
 refine wpS_seq ?_
 refine wpS_region ?_
 refine s_y (v := .int .i64 0) (y_assign rfl) rfl ?_
 refine wpL_nil ?_
 refine thenS_n ?_
 refine wpS_seq ?_
 refine wpS_seq ?_
 refine wpS_region ?_
 refine s_y (v := .bool b) (y_move rfl) rfl ?_
 refine wpL_nil ?_
 refine thenS_n ?_
 refine wpS_cond (t := b) rfl (fun b1 => ?_) (fun b1 => ?_)
 ·
  refine wpS_seq ?_
  refine wpS_region ?_
  refine s_y (v := .int .i64 1) (y_assign rfl) rfl ?_
  refine wpL_nil ?_
  refine thenS_n ?_
  refine wpS_ret ?_
  refine thenS_r ?_
  refine fin1 (v := .int .i64 1) (.inr rfl) (.nil) Try.results242 rfl ?_
  exact fun w' hs => ⟨congrArg (fun z : Int64 => Ending.returned (.int .i64 z.toInt)) (by rw [(by assumption : b = true)]; rfl : (1 : Int64) = one64 b), hs⟩
 ·
  refine wpS_skip ?_
  refine thenS_n ?_
  refine wpS_seq ?_
  refine wpS_region ?_
  refine s_y (v := .int .i64 0) (y_assign rfl) rfl ?_
  refine wpL_nil ?_
  refine thenS_n ?_
  refine wpS_ret ?_
  refine fin1 (v := .int .i64 0) (.inr rfl) (.nil) Try.results242 rfl ?_
  exact fun w' hs => ⟨congrArg (fun z : Int64 => Ending.returned (.int .i64 z.toInt)) (by rw [(by assumption : b = false)]; rfl : (0 : Int64) = one64 b), hs⟩
theorem grun_c (ga : Option Addr) (gn gc : Nat) (l : List Opc) (Rg : List Int64) (sa : Option Addr) (sn sc : Nat) (xs : List Rec) (q : Int64) (kz : Int) (w : World) (hR : Rg.length = 8) (hx : xs.length = sn) (hk : (sn : Int) = kz) (hp : partOk kz l = true) (hn : l.length = gn) (hr : Rds w ga (l.flatMap opcV)) (hb : sn ≤ 1000) (hap : 0 < (l.flatMap opcV).length → aB ga ∉ (([osl sa sc sn 4 23 (xs.flatMap recV)] : List Res).flatMap Res.fp)) (hA : SH w (([osl sa sc sn 4 23 (xs.flatMap recV)] : List Res).flatMap Res.fp) [osl sa sc sn 4 23 (xs.flatMap recV)] w) : Calls Try.prog 231 #[.slice ga gn gc, .agg #[.int .i64 ((Rg.getD 0 0).toInt), .int .i64 ((Rg.getD 1 0).toInt), .int .i64 ((Rg.getD 2 0).toInt), .int .i64 ((Rg.getD 3 0).toInt), .int .i64 ((Rg.getD 4 0).toInt), .int .i64 ((Rg.getD 5 0).toInt), .int .i64 ((Rg.getD 6 0).toInt), .int .i64 ((Rg.getD 7 0).toInt)], .slice sa sn sc, .int .i64 q.toInt] w (fun e w' => e = .returned (.tuple #[.agg #[.int .i64 (((runM q ⟨Rg, xs⟩ l).r.getD 0 0).toInt), .int .i64 (((runM q ⟨Rg, xs⟩ l).r.getD 1 0).toInt), .int .i64 (((runM q ⟨Rg, xs⟩ l).r.getD 2 0).toInt), .int .i64 (((runM q ⟨Rg, xs⟩ l).r.getD 3 0).toInt), .int .i64 (((runM q ⟨Rg, xs⟩ l).r.getD 4 0).toInt), .int .i64 (((runM q ⟨Rg, xs⟩ l).r.getD 5 0).toInt), .int .i64 (((runM q ⟨Rg, xs⟩ l).r.getD 6 0).toInt), .int .i64 (((runM q ⟨Rg, xs⟩ l).r.getD 7 0).toInt)], .slice sa sn sc]) ∧ SH w (([osl sa sc sn 4 23 (xs.flatMap recV)] : List Res).flatMap Res.fp) [osl sa sc sn 4 23 (((runM q ⟨Rg, xs⟩ l).s).flatMap recV)] w') := by
 refine calls_S (n := 156) (σ0 := (upd (upd (upd (upd fr0 0 (.slice ga gn gc)) 1 (.agg #[.int .i64 ((Rg.getD 0 0).toInt), .int .i64 ((Rg.getD 1 0).toInt), .int .i64 ((Rg.getD 2 0).toInt), .int .i64 ((Rg.getD 3 0).toInt), .int .i64 ((Rg.getD 4 0).toInt), .int .i64 ((Rg.getD 5 0).toInt), .int .i64 ((Rg.getD 6 0).toInt), .int .i64 ((Rg.getD 7 0).toInt)])) 2 (.slice sa sn sc)) 3 (.int .i64 q.toInt))) (D := (([osl sa sc sn 4 23 (xs.flatMap recV)] : List Res).flatMap Res.fp)) (A := [osl sa sc sn 4 23 (xs.flatMap recV)]) Try.func231 rfl Try.ntmps231 rfl (a4_fr _ _ _ _) hA ?_
 have hl40 := part_len hp
 refine wpS_seq ?_
 refine wpS_region ?_
 refine s_e rfl ?_
 refine e_box (v := .agg #[.int .i64 ((Rg.getD 0 0).toInt), .int .i64 ((Rg.getD 1 0).toInt), .int .i64 ((Rg.getD 2 0).toInt), .int .i64 ((Rg.getD 3 0).toInt), .int .i64 ((Rg.getD 4 0).toInt), .int .i64 ((Rg.getD 5 0).toInt), .int .i64 ((Rg.getD 6 0).toInt), .int .i64 ((Rg.getD 7 0).toInt)]) (l := [.int .i64 ((Rg.getD 0 0).toInt), .int .i64 ((Rg.getD 1 0).toInt), .int .i64 ((Rg.getD 2 0).toInt), .int .i64 ((Rg.getD 3 0).toInt), .int .i64 ((Rg.getD 4 0).toInt), .int .i64 ((Rg.getD 5 0).toInt), .int .i64 ((Rg.getD 6 0).toInt), .int .i64 ((Rg.getD 7 0).toInt)]) rfl rfl ?_
 intro b_1
 refine s_e rfl ?_
 refine e_alloc (l := [.int .i64 0, .int .i64 0, .int .i64 0, .int .i64 0, .int .i64 0, .int .i64 0, .int .i64 0, .int .i64 0]) Try.zeroValue199 rfl ?_
 intro b_2
 refine s_y (v := .slice none 0 0) (y_assign rfl) rfl ?_
 refine wpL_nil ?_
 refine thenS_n ?_
 refine wpS_seq ?_
 refine wpS_seq ?_
 refine wpS_region ?_
 refine s_y (v := .int .i64 0) (y_assign rfl) rfl ?_
 refine wpL_nil ?_
 refine thenS_n ?_
 refine wpS_block ?_
 refine wpS_loop (fun mez ds σ L => ∃ i : Nat, mez = gn - i ∧ (i ≤ gn) ∧ ds = [] ∧ σ 0 = .slice ga gn gc ∧ σ 2 = .slice sa sn sc ∧ σ 3 = .int .i64 q.toInt ∧ σ 5 = .pointer (some ⟨b_1, 0, none⟩) ∧ σ 8 = .pointer (some ⟨b_2, 0, none⟩) ∧ σ 10 = .int .i64 ((i : Nat) : Int) ∧ Ent L [cel b_2 199 [.int .i64 0, .int .i64 0, .int .i64 0, .int .i64 0, .int .i64 0, .int .i64 0, .int .i64 0, .int .i64 0], cel b_1 199 (arrV ((runM q ⟨Rg, xs⟩ (l.take i)).r)), osl sa sc sn 4 23 (((runM q ⟨Rg, xs⟩ (l.take i)).s).flatMap recV)]) (m0 := gn - 0) ⟨0, rfl, by omega, rfl, rfl, rfl, rfl, rfl, rfl, rfl, .p .h (.p .h (.p .h .nil))⟩ ?_
 rintro mez ds σ L ⟨i, hm_3, hf0_3, rfl, h0_3, h2_3, h3_3, h5_3, h8_3, h10_3, hE_3⟩
 refine wpS_ent hE_3 ?_; clear hE_3
 refine wpS_seq ?_
 refine wpS_seq ?_
 refine wpS_region ?_
 refine s_y (v := .int .i64 ((i : Nat) : Int)) (y_move h10_3) rfl ?_
 refine s_y (v := .slice ga gn gc) (y_move h0_3) rfl ?_
 refine s_y (v := .int .i64 ((gn : Nat) : Int)) (y_len (ty' := 0) (at_ := #[]) rfl Try.underlying82) rfl ?_
 refine s_y (v := .bool (decide (i < gn))) (y_lss (a := ((i : Nat) : Int)) (b := ((gn : Nat) : Int)) (c := decide (i < gn)) rfl rfl (decide_eq_decide.2 (by omega))) rfl ?_
 refine wpL_nil ?_
 refine thenS_n ?_
 refine wpS_cond (t := decide (i < gn)) rfl (fun b4 => ?_) (fun b4 => ?_)
 ·
  have p4 := of_decide_eq_true b4
  have hop := part_at hp (i := i) (by omega)
  obtain ⟨ho1, ho2, ho3, ho4, ho5, ho6, ho7, ho8, ho9, ho10⟩ := op_regs hop
  have hrk : (runM q ⟨Rg, xs⟩ (l.take i)).r.length = 8 := (runM_r _ _ _).trans hR
  have hsk : (runM q ⟨Rg, xs⟩ (l.take i)).s.length = sn := (runM_s _ _ _).trans hx
  have hst := runM_step (q := q) (m := ⟨Rg, xs⟩) (l := l) (i := i) (by omega)
  refine wpS_skip ?_
  refine thenS_n ?_
  refine wpS_seq ?_
  refine wpS_block ?_
  refine wpS_seq ?_
  refine wpS_region ?_
  refine s_y (v := .slice ga gn gc) (y_move h0_3) rfl ?_
  refine s_y (v := .int .i64 ((i : Nat) : Int)) (y_move h10_3) rfl ?_
  refine s_y (v := .pointer (some ⟨aB ga, aO ga + i * 6, none⟩)) (y_idx (o := i * 6) rfl rfl Try.underlying82 Try.sizeOf86 (oldRD' hr hap) ((fl_len opcV_len _).trans (by first | omega | (simp only [List.length_set, List.length_take, List.length_drop]; done) | (simp only [List.length_set, List.length_take, List.length_drop]; omega))) (by decide) (by omega) (by omega) (by omega)) rfl ?_
  refine s_y (v := .agg #[.int .i64 ((l.getD i default).o0), .int .i64 ((l.getD i default).o1), .int .i64 ((l.getD i default).o2), .int .i64 ((l.getD i default).o3), .int .i64 ((l.getD i default).o4), .int .i64 (((l.getD i default).o5).toInt)]) (y_loadN (vs := opcV (l.getD i default)) rfl Try.isAgg86 Try.sizeOf86 (rdN (oldRD' hr hap) (fl_getN opcV_len l i (by first | omega | (simp only [List.length_set, List.length_take, List.length_drop]; done) | (simp only [List.length_set, List.length_take, List.length_drop]; omega))))) rfl ?_
  refine s_e rfl ?_
  refine e_alloc (l := [.int .i64 0, .int .i64 0, .int .i64 0, .int .i64 0, .int .i64 0, .int .i64 0]) Try.zeroValue86 rfl ?_
  intro b_5
  refine s_e0 ?_
  refine e_store (vs := [.int .i64 ((l.getD i default).o0), .int .i64 ((l.getD i default).o1), .int .i64 ((l.getD i default).o2), .int .i64 ((l.getD i default).o3), .int .i64 ((l.getD i default).o4), .int .i64 (((l.getD i default).o5).toInt)]) (l' := [.int .i64 ((l.getD i default).o0), .int .i64 ((l.getD i default).o1), .int .i64 ((l.getD i default).o2), .int .i64 ((l.getD i default).o3), .int .i64 ((l.getD i default).o4), .int .i64 (((l.getD i default).o5).toInt)]) rfl rfl rfl rfl Try.sizeOf86 .h (Nat.le_of_ble_eq_true rfl) rfl ?_
  refine wpL_nil ?_
  refine thenS_n ?_
  refine wpS_seq ?_
  refine wpS_lex (by kernel_rfl) (by kernel_rfl) ?_
  refine x_y (v := .pointer (some ⟨b_5, 2, none⟩)) (y_fieldAddr (o' := 2) rfl Try.underlying86 rfl Try.sizeOf3 (by decide) rfl) rfl ?_
  refine x_y (v := .int .i64 ((l.getD i default).o2)) (y_load1 rfl Try.isAgg3 (own1 .h rfl)) rfl ?_
  refine x_y (v := .pointer (some ⟨b_1, 0 + (((l.getD i default).o2).toNat) * 1, none⟩)) (y_idxA (o' := 0 + (((l.getD i default).o2).toNat) * 1) h5_3 rfl Try.underlying199 Try.sizeOf2 (by omega) (by omega) (by omega)) rfl ?_
  refine x_y (v := .int .i64 ((((runM q ⟨Rg, xs⟩ (l.take i)).r).getD (((l.getD i default).o2).toNat) 0).toInt)) (y_load1 rfl Try.isAgg2 (own1 (.t (.t .h)) (arr_get (by omega)))) rfl ?_
  refine x_y (v := .pointer (some ⟨b_5, 3, none⟩)) (y_fieldAddr (o' := 3) rfl Try.underlying86 rfl Try.sizeOf3 (by decide) rfl) rfl ?_
  refine x_y (v := .int .i64 ((l.getD i default).o3)) (y_load1 rfl Try.isAgg3 (own1 .h rfl)) rfl ?_
  refine x_y (v := .pointer (some ⟨b_1, 0 + (((l.getD i default).o3).toNat) * 1, none⟩)) (y_idxA (o' := 0 + (((l.getD i default).o3).toNat) * 1) h5_3 rfl Try.underlying199 Try.sizeOf2 (by omega) (by omega) (by omega)) rfl ?_
  refine x_y (v := .int .i64 ((((runM q ⟨Rg, xs⟩ (l.take i)).r).getD (((l.getD i default).o3).toNat) 0).toInt)) (y_load1 rfl Try.isAgg2 (own1 (.t (.t .h)) (arr_get (by omega)))) rfl ?_
  refine x_y (v := .pointer (some ⟨b_5, 4, none⟩)) (y_fieldAddr (o' := 4) rfl Try.underlying86 rfl Try.sizeOf3 (by decide) rfl) rfl ?_
  refine x_y (v := .int .i64 ((l.getD i default).o4)) (y_load1 rfl Try.isAgg3 (own1 .h rfl)) rfl ?_
  refine x_y (v := .pointer (some ⟨b_1, 0 + (((l.getD i default).o4).toNat) * 1, none⟩)) (y_idxA (o' := 0 + (((l.getD i default).o4).toNat) * 1) h5_3 rfl Try.underlying199 Try.sizeOf2 (by omega) (by omega) (by omega)) rfl ?_
  refine x_y (v := .int .i64 ((((runM q ⟨Rg, xs⟩ (l.take i)).r).getD (((l.getD i default).o4).toNat) 0).toInt)) (y_load1 rfl Try.isAgg2 (own1 (.t (.t .h)) (arr_get (by omega)))) rfl ?_
  refine x_y (v := .int .i64 ((((runM q ⟨Rg, xs⟩ (l.take i)).r).getD (((l.getD i default).o2).toNat) 0).toInt)) (y_assign rfl) rfl ?_
  refine x_y (v := .int .i64 ((((runM q ⟨Rg, xs⟩ (l.take i)).r).getD (((l.getD i default).o3).toNat) 0).toInt)) (y_assign rfl) rfl ?_
  refine x_y (v := .int .i64 ((((runM q ⟨Rg, xs⟩ (l.take i)).r).getD (((l.getD i default).o4).toNat) 0).toInt)) (y_assign rfl) rfl ?_
  refine x_nil ?_
  refine thenS_n ?_
  refine wpS_seq ?_
  refine wpS_region ?_
  refine s_y (v := .pointer (some ⟨b_5, 0, none⟩)) (y_fieldAddr (o' := 0) rfl Try.underlying86 rfl Try.sizeOf3 (by decide) rfl) rfl ?_
  refine s_y (v := .int .i64 ((l.getD i default).o0)) (y_load1 rfl Try.isAgg3 (own1 .h rfl)) rfl ?_
  refine wpL_nil ?_
  refine thenS_n ?_
  refine wpS_block ?_
  refine wpS_seq ?_
  refine wpS_region ?_
  refine s_y (v := .bool (decide (((l.getD i default).o0 : Int) = 1))) (y_eql (a := (l.getD i default).o0) (b := 1) rfl rfl rfl) rfl ?_
  refine s_y (v := .bool (decide (((l.getD i default).o0 : Int) = 1))) (y_assign rfl) rfl ?_
  refine wpL_nil ?_
  refine thenS_n ?_
  refine wpS_cond (t := decide (((l.getD i default).o0 : Int) = 1)) rfl (fun b6 => ?_) (fun b6 => ?_)
  ·
   have p6 := of_decide_eq_true b6
   have ho0 : (l.getD i default).o0 = 1 := by omega
   refine wpS_region ?_
   refine s_y (v := .pointer (some ⟨b_5, 1, none⟩)) (y_fieldAddr (o' := 1) rfl Try.underlying86 rfl Try.sizeOf3 (by decide) rfl) rfl ?_
   refine s_y (v := .int .i64 ((l.getD i default).o1)) (y_load1 rfl Try.isAgg3 (own1 .h rfl)) rfl ?_
   refine s_y (v := .pointer (some ⟨b_5, 5, none⟩)) (y_fieldAddr (o' := 5) rfl Try.underlying86 rfl Try.sizeOf2 (by decide) rfl) rfl ?_
   refine s_y (v := .int .i64 (((l.getD i default).o5).toInt)) (y_load1 rfl Try.isAgg2 (own1 .h rfl)) rfl ?_
   refine s_y (v := .pointer (some ⟨b_1, 0 + (((l.getD i default).o1).toNat) * 1, none⟩)) (y_idxA (o' := 0 + (((l.getD i default).o1).toNat) * 1) h5_3 rfl Try.underlying199 Try.sizeOf2 (by omega) (by omega) (by omega)) rfl ?_
   refine s_e0 ?_
   have hem1 : (runM q ⟨Rg, xs⟩ (l.take i)).r.set (((l.getD i default).o1).toNat) ((l.getD i default).o5) = (runM q ⟨Rg, xs⟩ (l.take (i + 1))).r := by
    rw [hst]; unfold stepM; rw [if_neg (by omega)]
    refine congrArg (List.set _ _) (Eq.symm ?_)
    show madeV _ _ _ _ = _
    unfold madeV
    first | (rw [ho0]; first | rfl | exact if_neg (by assumption) | exact if_pos (Decidable.not_not.1 (by assumption))) | (rw [show (l.getD i default).o0 = 11 by omega]; rfl)
   have hem2 : (runM q ⟨Rg, xs⟩ (l.take i)).s = (runM q ⟨Rg, xs⟩ (l.take (i + 1))).s := by rw [hst]; unfold stepM; rw [if_neg (by omega)]
   refine e_store (vs := [.int .i64 (((l.getD i default).o5).toInt)]) (l' := (arrV ((runM q ⟨Rg, xs⟩ (l.take (i + 1))).r))) rfl rfl rfl rfl Try.sizeOf2 (.t (.t .h)) (by show _ ≤ 8; simp only [List.length_singleton]; omega) (arr_set hrk (by omega) hem1) ?_
   rw [hem2]
   refine wpL_nil ?_
   refine blockS_n ?_
   refine blockS_n ?_
   refine thenS_n ?_
   refine wpS_region ?_
   refine s_y (v := .int .i64 ((i : Nat) : Int)) (y_move h10_3) rfl ?_
   refine s_y (v := .int .i64 (((i + 1) : Nat) : Int)) (y_add (a := ((i : Nat) : Int)) (b := 1) rfl rfl (wI (by omega) (by omega) (by omega))) rfl ?_
   refine s_y (v := .int .i64 (((i + 1) : Nat) : Int)) (y_assign rfl) rfl ?_
   refine wpL_nil ?_
   refine thenS_n ?_
   exact ⟨_, by omega, ⟨(i + 1), rfl, by omega, rfl, h0_3, h2_3, h3_3, h5_3, h8_3, rfl, .p (.t (.t .h)) (.p .h (.p (.t .h) .nil))⟩⟩
  ·
   have p6 := of_decide_eq_false b6
   refine wpS_seq ?_
   refine wpS_region ?_
   refine s_y (v := .bool (decide (((l.getD i default).o0 : Int) = 2))) (y_eql (a := (l.getD i default).o0) (b := 2) rfl rfl rfl) rfl ?_
   refine s_y (v := .bool (decide (((l.getD i default).o0 : Int) = 2))) (y_assign rfl) rfl ?_
   refine wpL_nil ?_
   refine thenS_n ?_
   refine wpS_cond (t := decide (((l.getD i default).o0 : Int) = 2)) rfl (fun b7 => ?_) (fun b7 => ?_)
   ·
    have p7 := of_decide_eq_true b7
    have ho0 : (l.getD i default).o0 = 2 := by omega
    refine wpS_region ?_
    refine s_y (v := .pointer (some ⟨b_5, 1, none⟩)) (y_fieldAddr (o' := 1) rfl Try.underlying86 rfl Try.sizeOf3 (by decide) rfl) rfl ?_
    refine s_y (v := .int .i64 ((l.getD i default).o1)) (y_load1 rfl Try.isAgg3 (own1 .h rfl)) rfl ?_
    refine s_y (v := .int .i64 ((((runM q ⟨Rg, xs⟩ (l.take i)).r).getD (((l.getD i default).o2).toNat) 0).toInt)) (y_move rfl) rfl ?_
    refine s_y (v := .int .i64 ((((runM q ⟨Rg, xs⟩ (l.take i)).r).getD (((l.getD i default).o3).toNat) 0).toInt)) (y_move rfl) rfl ?_
    refine s_y (v := .int .i64 (((((runM q ⟨Rg, xs⟩ (l.take i)).r).getD (((l.getD i default).o2).toNat) 0) + (((runM q ⟨Rg, xs⟩ (l.take i)).r).getD (((l.getD i default).o3).toNat) 0)).toInt)) (y_add (a := (((runM q ⟨Rg, xs⟩ (l.take i)).r).getD (((l.getD i default).o2).toNat) 0).toInt) (b := (((runM q ⟨Rg, xs⟩ (l.take i)).r).getD (((l.getD i default).o3).toNat) 0).toInt) rfl rfl (i_add _ _)) rfl ?_
    refine s_y (v := .pointer (some ⟨b_1, 0 + (((l.getD i default).o1).toNat) * 1, none⟩)) (y_idxA (o' := 0 + (((l.getD i default).o1).toNat) * 1) h5_3 rfl Try.underlying199 Try.sizeOf2 (by omega) (by omega) (by omega)) rfl ?_
    refine s_e0 ?_
    have hem1 : (runM q ⟨Rg, xs⟩ (l.take i)).r.set (((l.getD i default).o1).toNat) ((((runM q ⟨Rg, xs⟩ (l.take i)).r).getD (((l.getD i default).o2).toNat) 0) + (((runM q ⟨Rg, xs⟩ (l.take i)).r).getD (((l.getD i default).o3).toNat) 0)) = (runM q ⟨Rg, xs⟩ (l.take (i + 1))).r := by
     rw [hst]; unfold stepM; rw [if_neg (by omega)]
     refine congrArg (List.set _ _) (Eq.symm ?_)
     show madeV _ _ _ _ = _
     unfold madeV
     first | (rw [ho0]; first | rfl | exact if_neg (by assumption) | exact if_pos (Decidable.not_not.1 (by assumption))) | (rw [show (l.getD i default).o0 = 11 by omega]; rfl)
    have hem2 : (runM q ⟨Rg, xs⟩ (l.take i)).s = (runM q ⟨Rg, xs⟩ (l.take (i + 1))).s := by rw [hst]; unfold stepM; rw [if_neg (by omega)]
    refine e_store (vs := [.int .i64 (((((runM q ⟨Rg, xs⟩ (l.take i)).r).getD (((l.getD i default).o2).toNat) 0) + (((runM q ⟨Rg, xs⟩ (l.take i)).r).getD (((l.getD i default).o3).toNat) 0)).toInt)]) (l' := (arrV ((runM q ⟨Rg, xs⟩ (l.take (i + 1))).r))) rfl rfl rfl rfl Try.sizeOf2 (.t (.t .h)) (by show _ ≤ 8; simp only [List.length_singleton]; omega) (arr_set hrk (by omega) hem1) ?_
    rw [hem2]
    refine wpL_nil ?_
    refine blockS_n ?_
    refine blockS_n ?_
    refine thenS_n ?_
    refine wpS_region ?_
    refine s_y (v := .int .i64 ((i : Nat) : Int)) (y_move h10_3) rfl ?_
    refine s_y (v := .int .i64 (((i + 1) : Nat) : Int)) (y_add (a := ((i : Nat) : Int)) (b := 1) rfl rfl (wI (by omega) (by omega) (by omega))) rfl ?_
    refine s_y (v := .int .i64 (((i + 1) : Nat) : Int)) (y_assign rfl) rfl ?_
    refine wpL_nil ?_
    refine thenS_n ?_
    exact ⟨_, by omega, ⟨(i + 1), rfl, by omega, rfl, h0_3, h2_3, h3_3, h5_3, h8_3, rfl, .p (.t (.t .h)) (.p .h (.p (.t .h) .nil))⟩⟩
   ·
    have p7 := of_decide_eq_false b7
    refine wpS_seq ?_
    refine wpS_region ?_
    refine s_y (v := .bool (decide (((l.getD i default).o0 : Int) = 3))) (y_eql (a := (l.getD i default).o0) (b := 3) rfl rfl rfl) rfl ?_
    refine s_y (v := .bool (decide (((l.getD i default).o0 : Int) = 3))) (y_assign rfl) rfl ?_
    refine wpL_nil ?_
    refine thenS_n ?_
    refine wpS_cond (t := decide (((l.getD i default).o0 : Int) = 3)) rfl (fun b8 => ?_) (fun b8 => ?_)
    ·
     have p8 := of_decide_eq_true b8
     have ho0 : (l.getD i default).o0 = 3 := by omega
     refine wpS_region ?_
     refine s_y (v := .pointer (some ⟨b_5, 1, none⟩)) (y_fieldAddr (o' := 1) rfl Try.underlying86 rfl Try.sizeOf3 (by decide) rfl) rfl ?_
     refine s_y (v := .int .i64 ((l.getD i default).o1)) (y_load1 rfl Try.isAgg3 (own1 .h rfl)) rfl ?_
     refine s_y (v := .int .i64 ((((runM q ⟨Rg, xs⟩ (l.take i)).r).getD (((l.getD i default).o2).toNat) 0).toInt)) (y_move rfl) rfl ?_
     refine s_y (v := .int .i64 ((((runM q ⟨Rg, xs⟩ (l.take i)).r).getD (((l.getD i default).o3).toNat) 0).toInt)) (y_move rfl) rfl ?_
     refine s_y (v := .int .i64 (((((runM q ⟨Rg, xs⟩ (l.take i)).r).getD (((l.getD i default).o2).toNat) 0) - (((runM q ⟨Rg, xs⟩ (l.take i)).r).getD (((l.getD i default).o3).toNat) 0)).toInt)) (y_sub (a := (((runM q ⟨Rg, xs⟩ (l.take i)).r).getD (((l.getD i default).o2).toNat) 0).toInt) (b := (((runM q ⟨Rg, xs⟩ (l.take i)).r).getD (((l.getD i default).o3).toNat) 0).toInt) rfl rfl (i_sub _ _)) rfl ?_
     refine s_y (v := .pointer (some ⟨b_1, 0 + (((l.getD i default).o1).toNat) * 1, none⟩)) (y_idxA (o' := 0 + (((l.getD i default).o1).toNat) * 1) h5_3 rfl Try.underlying199 Try.sizeOf2 (by omega) (by omega) (by omega)) rfl ?_
     refine s_e0 ?_
     have hem1 : (runM q ⟨Rg, xs⟩ (l.take i)).r.set (((l.getD i default).o1).toNat) ((((runM q ⟨Rg, xs⟩ (l.take i)).r).getD (((l.getD i default).o2).toNat) 0) - (((runM q ⟨Rg, xs⟩ (l.take i)).r).getD (((l.getD i default).o3).toNat) 0)) = (runM q ⟨Rg, xs⟩ (l.take (i + 1))).r := by
      rw [hst]; unfold stepM; rw [if_neg (by omega)]
      refine congrArg (List.set _ _) (Eq.symm ?_)
      show madeV _ _ _ _ = _
      unfold madeV
      first | (rw [ho0]; first | rfl | exact if_neg (by assumption) | exact if_pos (Decidable.not_not.1 (by assumption))) | (rw [show (l.getD i default).o0 = 11 by omega]; rfl)
     have hem2 : (runM q ⟨Rg, xs⟩ (l.take i)).s = (runM q ⟨Rg, xs⟩ (l.take (i + 1))).s := by rw [hst]; unfold stepM; rw [if_neg (by omega)]
     refine e_store (vs := [.int .i64 (((((runM q ⟨Rg, xs⟩ (l.take i)).r).getD (((l.getD i default).o2).toNat) 0) - (((runM q ⟨Rg, xs⟩ (l.take i)).r).getD (((l.getD i default).o3).toNat) 0)).toInt)]) (l' := (arrV ((runM q ⟨Rg, xs⟩ (l.take (i + 1))).r))) rfl rfl rfl rfl Try.sizeOf2 (.t (.t .h)) (by show _ ≤ 8; simp only [List.length_singleton]; omega) (arr_set hrk (by omega) hem1) ?_
     rw [hem2]
     refine wpL_nil ?_
     refine blockS_n ?_
     refine blockS_n ?_
     refine thenS_n ?_
     refine wpS_region ?_
     refine s_y (v := .int .i64 ((i : Nat) : Int)) (y_move h10_3) rfl ?_
     refine s_y (v := .int .i64 (((i + 1) : Nat) : Int)) (y_add (a := ((i : Nat) : Int)) (b := 1) rfl rfl (wI (by omega) (by omega) (by omega))) rfl ?_
     refine s_y (v := .int .i64 (((i + 1) : Nat) : Int)) (y_assign rfl) rfl ?_
     refine wpL_nil ?_
     refine thenS_n ?_
     exact ⟨_, by omega, ⟨(i + 1), rfl, by omega, rfl, h0_3, h2_3, h3_3, h5_3, h8_3, rfl, .p (.t (.t .h)) (.p .h (.p (.t .h) .nil))⟩⟩
    ·
     have p8 := of_decide_eq_false b8
     refine wpS_seq ?_
     refine wpS_region ?_
     refine s_y (v := .bool (decide (((l.getD i default).o0 : Int) = 4))) (y_eql (a := (l.getD i default).o0) (b := 4) rfl rfl rfl) rfl ?_
     refine s_y (v := .bool (decide (((l.getD i default).o0 : Int) = 4))) (y_assign rfl) rfl ?_
     refine wpL_nil ?_
     refine thenS_n ?_
     refine wpS_cond (t := decide (((l.getD i default).o0 : Int) = 4)) rfl (fun b9 => ?_) (fun b9 => ?_)
     ·
      have p9 := of_decide_eq_true b9
      have ho0 : (l.getD i default).o0 = 4 := by omega
      refine wpS_region ?_
      refine s_y (v := .pointer (some ⟨b_5, 1, none⟩)) (y_fieldAddr (o' := 1) rfl Try.underlying86 rfl Try.sizeOf3 (by decide) rfl) rfl ?_
      refine s_y (v := .int .i64 ((l.getD i default).o1)) (y_load1 rfl Try.isAgg3 (own1 .h rfl)) rfl ?_
      refine s_y (v := .int .i64 ((((runM q ⟨Rg, xs⟩ (l.take i)).r).getD (((l.getD i default).o2).toNat) 0).toInt)) (y_move rfl) rfl ?_
      refine s_y (v := .int .i64 ((((runM q ⟨Rg, xs⟩ (l.take i)).r).getD (((l.getD i default).o3).toNat) 0).toInt)) (y_move rfl) rfl ?_
      refine s_y (v := .int .i64 (((((runM q ⟨Rg, xs⟩ (l.take i)).r).getD (((l.getD i default).o2).toNat) 0) * (((runM q ⟨Rg, xs⟩ (l.take i)).r).getD (((l.getD i default).o3).toNat) 0)).toInt)) (y_mul (a := (((runM q ⟨Rg, xs⟩ (l.take i)).r).getD (((l.getD i default).o2).toNat) 0).toInt) (b := (((runM q ⟨Rg, xs⟩ (l.take i)).r).getD (((l.getD i default).o3).toNat) 0).toInt) rfl rfl (i_mul _ _)) rfl ?_
      refine s_y (v := .pointer (some ⟨b_1, 0 + (((l.getD i default).o1).toNat) * 1, none⟩)) (y_idxA (o' := 0 + (((l.getD i default).o1).toNat) * 1) h5_3 rfl Try.underlying199 Try.sizeOf2 (by omega) (by omega) (by omega)) rfl ?_
      refine s_e0 ?_
      have hem1 : (runM q ⟨Rg, xs⟩ (l.take i)).r.set (((l.getD i default).o1).toNat) ((((runM q ⟨Rg, xs⟩ (l.take i)).r).getD (((l.getD i default).o2).toNat) 0) * (((runM q ⟨Rg, xs⟩ (l.take i)).r).getD (((l.getD i default).o3).toNat) 0)) = (runM q ⟨Rg, xs⟩ (l.take (i + 1))).r := by
       rw [hst]; unfold stepM; rw [if_neg (by omega)]
       refine congrArg (List.set _ _) (Eq.symm ?_)
       show madeV _ _ _ _ = _
       unfold madeV
       first | (rw [ho0]; first | rfl | exact if_neg (by assumption) | exact if_pos (Decidable.not_not.1 (by assumption))) | (rw [show (l.getD i default).o0 = 11 by omega]; rfl)
      have hem2 : (runM q ⟨Rg, xs⟩ (l.take i)).s = (runM q ⟨Rg, xs⟩ (l.take (i + 1))).s := by rw [hst]; unfold stepM; rw [if_neg (by omega)]
      refine e_store (vs := [.int .i64 (((((runM q ⟨Rg, xs⟩ (l.take i)).r).getD (((l.getD i default).o2).toNat) 0) * (((runM q ⟨Rg, xs⟩ (l.take i)).r).getD (((l.getD i default).o3).toNat) 0)).toInt)]) (l' := (arrV ((runM q ⟨Rg, xs⟩ (l.take (i + 1))).r))) rfl rfl rfl rfl Try.sizeOf2 (.t (.t .h)) (by show _ ≤ 8; simp only [List.length_singleton]; omega) (arr_set hrk (by omega) hem1) ?_
      rw [hem2]
      refine wpL_nil ?_
      refine blockS_n ?_
      refine blockS_n ?_
      refine thenS_n ?_
      refine wpS_region ?_
      refine s_y (v := .int .i64 ((i : Nat) : Int)) (y_move h10_3) rfl ?_
      refine s_y (v := .int .i64 (((i + 1) : Nat) : Int)) (y_add (a := ((i : Nat) : Int)) (b := 1) rfl rfl (wI (by omega) (by omega) (by omega))) rfl ?_
      refine s_y (v := .int .i64 (((i + 1) : Nat) : Int)) (y_assign rfl) rfl ?_
      refine wpL_nil ?_
      refine thenS_n ?_
      exact ⟨_, by omega, ⟨(i + 1), rfl, by omega, rfl, h0_3, h2_3, h3_3, h5_3, h8_3, rfl, .p (.t (.t .h)) (.p .h (.p (.t .h) .nil))⟩⟩
     ·
      have p9 := of_decide_eq_false b9
      refine wpS_seq ?_
      refine wpS_region ?_
      refine s_y (v := .bool (decide (((l.getD i default).o0 : Int) = 5))) (y_eql (a := (l.getD i default).o0) (b := 5) rfl rfl rfl) rfl ?_
      refine s_y (v := .bool (decide (((l.getD i default).o0 : Int) = 5))) (y_assign rfl) rfl ?_
      refine wpL_nil ?_
      refine thenS_n ?_
      refine wpS_cond (t := decide (((l.getD i default).o0 : Int) = 5)) rfl (fun b10 => ?_) (fun b10 => ?_)
      ·
       have p10 := of_decide_eq_true b10
       have ho0 : (l.getD i default).o0 = 5 := by omega
       refine wpS_region ?_
       refine s_y (v := .pointer (some ⟨b_5, 1, none⟩)) (y_fieldAddr (o' := 1) rfl Try.underlying86 rfl Try.sizeOf3 (by decide) rfl) rfl ?_
       refine s_y (v := .int .i64 ((l.getD i default).o1)) (y_load1 rfl Try.isAgg3 (own1 .h rfl)) rfl ?_
       refine s_y (v := .int .i64 ((((runM q ⟨Rg, xs⟩ (l.take i)).r).getD (((l.getD i default).o2).toNat) 0).toInt)) (y_move rfl) rfl ?_
       refine s_y (v := .int .i64 ((((runM q ⟨Rg, xs⟩ (l.take i)).r).getD (((l.getD i default).o3).toNat) 0).toInt)) (y_move rfl) rfl ?_
       refine s_y (v := .int .i64 (((((runM q ⟨Rg, xs⟩ (l.take i)).r).getD (((l.getD i default).o2).toNat) 0) &&& (((runM q ⟨Rg, xs⟩ (l.take i)).r).getD (((l.getD i default).o3).toNat) 0)).toInt)) (y_and (a := (((runM q ⟨Rg, xs⟩ (l.take i)).r).getD (((l.getD i default).o2).toNat) 0).toInt) (b := (((runM q ⟨Rg, xs⟩ (l.take i)).r).getD (((l.getD i default).o3).toNat) 0).toInt) rfl rfl (i_and _ _)) rfl ?_
       refine s_y (v := .pointer (some ⟨b_1, 0 + (((l.getD i default).o1).toNat) * 1, none⟩)) (y_idxA (o' := 0 + (((l.getD i default).o1).toNat) * 1) h5_3 rfl Try.underlying199 Try.sizeOf2 (by omega) (by omega) (by omega)) rfl ?_
       refine s_e0 ?_
       have hem1 : (runM q ⟨Rg, xs⟩ (l.take i)).r.set (((l.getD i default).o1).toNat) ((((runM q ⟨Rg, xs⟩ (l.take i)).r).getD (((l.getD i default).o2).toNat) 0) &&& (((runM q ⟨Rg, xs⟩ (l.take i)).r).getD (((l.getD i default).o3).toNat) 0)) = (runM q ⟨Rg, xs⟩ (l.take (i + 1))).r := by
        rw [hst]; unfold stepM; rw [if_neg (by omega)]
        refine congrArg (List.set _ _) (Eq.symm ?_)
        show madeV _ _ _ _ = _
        unfold madeV
        first | (rw [ho0]; first | rfl | exact if_neg (by assumption) | exact if_pos (Decidable.not_not.1 (by assumption))) | (rw [show (l.getD i default).o0 = 11 by omega]; rfl)
       have hem2 : (runM q ⟨Rg, xs⟩ (l.take i)).s = (runM q ⟨Rg, xs⟩ (l.take (i + 1))).s := by rw [hst]; unfold stepM; rw [if_neg (by omega)]
       refine e_store (vs := [.int .i64 (((((runM q ⟨Rg, xs⟩ (l.take i)).r).getD (((l.getD i default).o2).toNat) 0) &&& (((runM q ⟨Rg, xs⟩ (l.take i)).r).getD (((l.getD i default).o3).toNat) 0)).toInt)]) (l' := (arrV ((runM q ⟨Rg, xs⟩ (l.take (i + 1))).r))) rfl rfl rfl rfl Try.sizeOf2 (.t (.t .h)) (by show _ ≤ 8; simp only [List.length_singleton]; omega) (arr_set hrk (by omega) hem1) ?_
       rw [hem2]
       refine wpL_nil ?_
       refine blockS_n ?_
       refine blockS_n ?_
       refine thenS_n ?_
       refine wpS_region ?_
       refine s_y (v := .int .i64 ((i : Nat) : Int)) (y_move h10_3) rfl ?_
       refine s_y (v := .int .i64 (((i + 1) : Nat) : Int)) (y_add (a := ((i : Nat) : Int)) (b := 1) rfl rfl (wI (by omega) (by omega) (by omega))) rfl ?_
       refine s_y (v := .int .i64 (((i + 1) : Nat) : Int)) (y_assign rfl) rfl ?_
       refine wpL_nil ?_
       refine thenS_n ?_
       exact ⟨_, by omega, ⟨(i + 1), rfl, by omega, rfl, h0_3, h2_3, h3_3, h5_3, h8_3, rfl, .p (.t (.t .h)) (.p .h (.p (.t .h) .nil))⟩⟩
      ·
       have p10 := of_decide_eq_false b10
       refine wpS_seq ?_
       refine wpS_region ?_
       refine s_y (v := .bool (decide (((l.getD i default).o0 : Int) = 6))) (y_eql (a := (l.getD i default).o0) (b := 6) rfl rfl rfl) rfl ?_
       refine s_y (v := .bool (decide (((l.getD i default).o0 : Int) = 6))) (y_assign rfl) rfl ?_
       refine wpL_nil ?_
       refine thenS_n ?_
       refine wpS_cond (t := decide (((l.getD i default).o0 : Int) = 6)) rfl (fun b11 => ?_) (fun b11 => ?_)
       ·
        have p11 := of_decide_eq_true b11
        have ho0 : (l.getD i default).o0 = 6 := by omega
        refine wpS_region ?_
        refine s_y (v := .pointer (some ⟨b_5, 1, none⟩)) (y_fieldAddr (o' := 1) rfl Try.underlying86 rfl Try.sizeOf3 (by decide) rfl) rfl ?_
        refine s_y (v := .int .i64 ((l.getD i default).o1)) (y_load1 rfl Try.isAgg3 (own1 .h rfl)) rfl ?_
        refine s_y (v := .int .i64 ((((runM q ⟨Rg, xs⟩ (l.take i)).r).getD (((l.getD i default).o2).toNat) 0).toInt)) (y_move rfl) rfl ?_
        refine s_y (v := .int .i64 ((((runM q ⟨Rg, xs⟩ (l.take i)).r).getD (((l.getD i default).o3).toNat) 0).toInt)) (y_move rfl) rfl ?_
        refine s_y (v := .int .i64 (((((runM q ⟨Rg, xs⟩ (l.take i)).r).getD (((l.getD i default).o2).toNat) 0) ||| (((runM q ⟨Rg, xs⟩ (l.take i)).r).getD (((l.getD i default).o3).toNat) 0)).toInt)) (y_or (a := (((runM q ⟨Rg, xs⟩ (l.take i)).r).getD (((l.getD i default).o2).toNat) 0).toInt) (b := (((runM q ⟨Rg, xs⟩ (l.take i)).r).getD (((l.getD i default).o3).toNat) 0).toInt) rfl rfl (i_or _ _)) rfl ?_
        refine s_y (v := .pointer (some ⟨b_1, 0 + (((l.getD i default).o1).toNat) * 1, none⟩)) (y_idxA (o' := 0 + (((l.getD i default).o1).toNat) * 1) h5_3 rfl Try.underlying199 Try.sizeOf2 (by omega) (by omega) (by omega)) rfl ?_
        refine s_e0 ?_
        have hem1 : (runM q ⟨Rg, xs⟩ (l.take i)).r.set (((l.getD i default).o1).toNat) ((((runM q ⟨Rg, xs⟩ (l.take i)).r).getD (((l.getD i default).o2).toNat) 0) ||| (((runM q ⟨Rg, xs⟩ (l.take i)).r).getD (((l.getD i default).o3).toNat) 0)) = (runM q ⟨Rg, xs⟩ (l.take (i + 1))).r := by
         rw [hst]; unfold stepM; rw [if_neg (by omega)]
         refine congrArg (List.set _ _) (Eq.symm ?_)
         show madeV _ _ _ _ = _
         unfold madeV
         first | (rw [ho0]; first | rfl | exact if_neg (by assumption) | exact if_pos (Decidable.not_not.1 (by assumption))) | (rw [show (l.getD i default).o0 = 11 by omega]; rfl)
        have hem2 : (runM q ⟨Rg, xs⟩ (l.take i)).s = (runM q ⟨Rg, xs⟩ (l.take (i + 1))).s := by rw [hst]; unfold stepM; rw [if_neg (by omega)]
        refine e_store (vs := [.int .i64 (((((runM q ⟨Rg, xs⟩ (l.take i)).r).getD (((l.getD i default).o2).toNat) 0) ||| (((runM q ⟨Rg, xs⟩ (l.take i)).r).getD (((l.getD i default).o3).toNat) 0)).toInt)]) (l' := (arrV ((runM q ⟨Rg, xs⟩ (l.take (i + 1))).r))) rfl rfl rfl rfl Try.sizeOf2 (.t (.t .h)) (by show _ ≤ 8; simp only [List.length_singleton]; omega) (arr_set hrk (by omega) hem1) ?_
        rw [hem2]
        refine wpL_nil ?_
        refine blockS_n ?_
        refine blockS_n ?_
        refine thenS_n ?_
        refine wpS_region ?_
        refine s_y (v := .int .i64 ((i : Nat) : Int)) (y_move h10_3) rfl ?_
        refine s_y (v := .int .i64 (((i + 1) : Nat) : Int)) (y_add (a := ((i : Nat) : Int)) (b := 1) rfl rfl (wI (by omega) (by omega) (by omega))) rfl ?_
        refine s_y (v := .int .i64 (((i + 1) : Nat) : Int)) (y_assign rfl) rfl ?_
        refine wpL_nil ?_
        refine thenS_n ?_
        exact ⟨_, by omega, ⟨(i + 1), rfl, by omega, rfl, h0_3, h2_3, h3_3, h5_3, h8_3, rfl, .p (.t (.t .h)) (.p .h (.p (.t .h) .nil))⟩⟩
       ·
        have p11 := of_decide_eq_false b11
        refine wpS_seq ?_
        refine wpS_region ?_
        refine s_y (v := .bool (decide (((l.getD i default).o0 : Int) = 7))) (y_eql (a := (l.getD i default).o0) (b := 7) rfl rfl rfl) rfl ?_
        refine s_y (v := .bool (decide (((l.getD i default).o0 : Int) = 7))) (y_assign rfl) rfl ?_
        refine wpL_nil ?_
        refine thenS_n ?_
        refine wpS_cond (t := decide (((l.getD i default).o0 : Int) = 7)) rfl (fun b12 => ?_) (fun b12 => ?_)
        ·
         have p12 := of_decide_eq_true b12
         have ho0 : (l.getD i default).o0 = 7 := by omega
         refine wpS_region ?_
         refine s_y (v := .pointer (some ⟨b_5, 1, none⟩)) (y_fieldAddr (o' := 1) rfl Try.underlying86 rfl Try.sizeOf3 (by decide) rfl) rfl ?_
         refine s_y (v := .int .i64 ((l.getD i default).o1)) (y_load1 rfl Try.isAgg3 (own1 .h rfl)) rfl ?_
         refine s_y (v := .int .i64 ((((runM q ⟨Rg, xs⟩ (l.take i)).r).getD (((l.getD i default).o2).toNat) 0).toInt)) (y_move rfl) rfl ?_
         refine s_y (v := .int .i64 ((((runM q ⟨Rg, xs⟩ (l.take i)).r).getD (((l.getD i default).o3).toNat) 0).toInt)) (y_move rfl) rfl ?_
         refine s_y (v := .int .i64 (((((runM q ⟨Rg, xs⟩ (l.take i)).r).getD (((l.getD i default).o2).toNat) 0) ^^^ (((runM q ⟨Rg, xs⟩ (l.take i)).r).getD (((l.getD i default).o3).toNat) 0)).toInt)) (y_xor (a := (((runM q ⟨Rg, xs⟩ (l.take i)).r).getD (((l.getD i default).o2).toNat) 0).toInt) (b := (((runM q ⟨Rg, xs⟩ (l.take i)).r).getD (((l.getD i default).o3).toNat) 0).toInt) rfl rfl (i_xor _ _)) rfl ?_
         refine s_y (v := .pointer (some ⟨b_1, 0 + (((l.getD i default).o1).toNat) * 1, none⟩)) (y_idxA (o' := 0 + (((l.getD i default).o1).toNat) * 1) h5_3 rfl Try.underlying199 Try.sizeOf2 (by omega) (by omega) (by omega)) rfl ?_
         refine s_e0 ?_
         have hem1 : (runM q ⟨Rg, xs⟩ (l.take i)).r.set (((l.getD i default).o1).toNat) ((((runM q ⟨Rg, xs⟩ (l.take i)).r).getD (((l.getD i default).o2).toNat) 0) ^^^ (((runM q ⟨Rg, xs⟩ (l.take i)).r).getD (((l.getD i default).o3).toNat) 0)) = (runM q ⟨Rg, xs⟩ (l.take (i + 1))).r := by
          rw [hst]; unfold stepM; rw [if_neg (by omega)]
          refine congrArg (List.set _ _) (Eq.symm ?_)
          show madeV _ _ _ _ = _
          unfold madeV
          first | (rw [ho0]; first | rfl | exact if_neg (by assumption) | exact if_pos (Decidable.not_not.1 (by assumption))) | (rw [show (l.getD i default).o0 = 11 by omega]; rfl)
         have hem2 : (runM q ⟨Rg, xs⟩ (l.take i)).s = (runM q ⟨Rg, xs⟩ (l.take (i + 1))).s := by rw [hst]; unfold stepM; rw [if_neg (by omega)]
         refine e_store (vs := [.int .i64 (((((runM q ⟨Rg, xs⟩ (l.take i)).r).getD (((l.getD i default).o2).toNat) 0) ^^^ (((runM q ⟨Rg, xs⟩ (l.take i)).r).getD (((l.getD i default).o3).toNat) 0)).toInt)]) (l' := (arrV ((runM q ⟨Rg, xs⟩ (l.take (i + 1))).r))) rfl rfl rfl rfl Try.sizeOf2 (.t (.t .h)) (by show _ ≤ 8; simp only [List.length_singleton]; omega) (arr_set hrk (by omega) hem1) ?_
         rw [hem2]
         refine wpL_nil ?_
         refine blockS_n ?_
         refine blockS_n ?_
         refine thenS_n ?_
         refine wpS_region ?_
         refine s_y (v := .int .i64 ((i : Nat) : Int)) (y_move h10_3) rfl ?_
         refine s_y (v := .int .i64 (((i + 1) : Nat) : Int)) (y_add (a := ((i : Nat) : Int)) (b := 1) rfl rfl (wI (by omega) (by omega) (by omega))) rfl ?_
         refine s_y (v := .int .i64 (((i + 1) : Nat) : Int)) (y_assign rfl) rfl ?_
         refine wpL_nil ?_
         refine thenS_n ?_
         exact ⟨_, by omega, ⟨(i + 1), rfl, by omega, rfl, h0_3, h2_3, h3_3, h5_3, h8_3, rfl, .p (.t (.t .h)) (.p .h (.p (.t .h) .nil))⟩⟩
        ·
         have p12 := of_decide_eq_false b12
         refine wpS_seq ?_
         refine wpS_region ?_
         refine s_y (v := .bool (decide (((l.getD i default).o0 : Int) = 8))) (y_eql (a := (l.getD i default).o0) (b := 8) rfl rfl rfl) rfl ?_
         refine s_y (v := .bool (decide (((l.getD i default).o0 : Int) = 8))) (y_assign rfl) rfl ?_
         refine wpL_nil ?_
         refine thenS_n ?_
         refine wpS_cond (t := decide (((l.getD i default).o0 : Int) = 8)) rfl (fun b13 => ?_) (fun b13 => ?_)
         ·
          have p13 := of_decide_eq_true b13
          have ho0 : (l.getD i default).o0 = 8 := by omega
          refine wpS_anyL [cel b_5 86 [.int .i64 ((l.getD i default).o0), .int .i64 ((l.getD i default).o1), .int .i64 ((l.getD i default).o2), .int .i64 ((l.getD i default).o3), .int .i64 ((l.getD i default).o4), .int .i64 (((l.getD i default).o5).toInt)]] [] (by kernel_rfl) ?_
          refine anyS_take (i := 0) rfl (by kernel_rfl) (by kernel_rfl) (by kernel_rfl) (by kernel_rfl) (Yq.of (v := .pointer (some ⟨b_5, 1, none⟩)) (y_fieldAddr (o' := 1) rfl Try.underlying86 rfl Try.sizeOf3 (by decide) rfl) rfl) (.p .h .nil) ?_
          refine anyS_take (i := 1) rfl (by kernel_rfl) (by kernel_rfl) (by kernel_rfl) (by kernel_rfl) (Yq.of (v := .int .i64 ((l.getD i default).o1)) (y_load1 rfl Try.isAgg3 (own1 .h rfl)) rfl) (.p .h .nil) ?_
          refine anyS_take (i := 2) rfl (by kernel_rfl) (by kernel_rfl) (by kernel_rfl) (by kernel_rfl) (Yq.of (v := .int .i64 ((((runM q ⟨Rg, xs⟩ (l.take i)).r).getD (((l.getD i default).o2).toNat) 0).toInt)) (y_move rfl) rfl) (.p .h .nil) ?_
          refine anyS_take (i := 3) rfl (by kernel_rfl) (by kernel_rfl) (by kernel_rfl) (by kernel_rfl) (Yq.of (v := .int .i64 ((((runM q ⟨Rg, xs⟩ (l.take i)).r).getD (((l.getD i default).o3).toNat) 0).toInt)) (y_move rfl) rfl) (.p .h .nil) ?_
          refine anyS_take (i := 4) rfl (by kernel_rfl) (by kernel_rfl) (by kernel_rfl) (by kernel_rfl) (Yq.of (v := .bool (decide ((((runM q ⟨Rg, xs⟩ (l.take i)).r).getD (((l.getD i default).o2).toNat) 0) < (((runM q ⟨Rg, xs⟩ (l.take i)).r).getD (((l.getD i default).o3).toNat) 0)))) (y_lss (a := (((runM q ⟨Rg, xs⟩ (l.take i)).r).getD (((l.getD i default).o2).toNat) 0).toInt) (b := (((runM q ⟨Rg, xs⟩ (l.take i)).r).getD (((l.getD i default).o3).toNat) 0).toInt) (c := decide ((((runM q ⟨Rg, xs⟩ (l.take i)).r).getD (((l.getD i default).o2).toNat) 0) < (((runM q ⟨Rg, xs⟩ (l.take i)).r).getD (((l.getD i default).o3).toNat) 0))) rfl rfl (i_lss _ _)) rfl) (.p .h .nil) ?_
          refine anyS_take (i := 5) rfl (by kernel_rfl) (by kernel_rfl) (by kernel_rfl) (by kernel_rfl) (Yq.of (v := .int .i64 ((one64 (decide ((((runM q ⟨Rg, xs⟩ (l.take i)).r).getD (((l.getD i default).o2).toNat) 0) < (((runM q ⟨Rg, xs⟩ (l.take i)).r).getD (((l.getD i default).o3).toNat) 0)))).toInt)) (y_call (args := #[.bool (decide ((((runM q ⟨Rg, xs⟩ (l.take i)).r).getD (((l.getD i default).o2).toNat) 0) < (((runM q ⟨Rg, xs⟩ (l.take i)).r).getD (((l.getD i default).o3).toNat) 0)))]) Try.call242 (ev1 rfl) (fun w hs => rone_c (decide ((((runM q ⟨Rg, xs⟩ (l.take i)).r).getD (((l.getD i default).o2).toNat) 0) < (((runM q ⟨Rg, xs⟩ (l.take i)).r).getD (((l.getD i default).o3).toNat) 0))) w)) rfl) (.p .h .nil) ?_
          refine anyS_take (i := 6) rfl (by kernel_rfl) (by kernel_rfl) (by kernel_rfl) (by kernel_rfl) (Yq.of (v := .pointer (some ⟨b_1, 0 + (((l.getD i default).o1).toNat) * 1, none⟩)) (y_idxA (o' := 0 + (((l.getD i default).o1).toNat) * 1) h5_3 rfl Try.underlying199 Try.sizeOf2 (by omega) (by omega) (by omega)) rfl) (.p .h .nil) ?_
          refine anyS_all (rs := [7]) (by kernel_rfl) (by simp) ?_
          intro i hi; obtain rfl := List.mem_singleton.1 hi; clear hi
          refine opS_0 rfl rfl ?_
          have hem1 : (runM q ⟨Rg, xs⟩ (l.take i)).r.set (((l.getD i default).o1).toNat) (one64 (decide ((((runM q ⟨Rg, xs⟩ (l.take i)).r).getD (((l.getD i default).o2).toNat) 0) < (((runM q ⟨Rg, xs⟩ (l.take i)).r).getD (((l.getD i default).o3).toNat) 0)))) = (runM q ⟨Rg, xs⟩ (l.take (i + 1))).r := by
           rw [hst]; unfold stepM; rw [if_neg (by omega)]
           refine congrArg (List.set _ _) (Eq.symm ?_)
           show madeV _ _ _ _ = _
           unfold madeV
           first | (rw [ho0]; first | rfl | exact if_neg (by assumption) | exact if_pos (Decidable.not_not.1 (by assumption))) | (rw [show (l.getD i default).o0 = 11 by omega]; rfl)
          have hem2 : (runM q ⟨Rg, xs⟩ (l.take i)).s = (runM q ⟨Rg, xs⟩ (l.take (i + 1))).s := by rw [hst]; unfold stepM; rw [if_neg (by omega)]
          refine e_store (vs := [.int .i64 ((one64 (decide ((((runM q ⟨Rg, xs⟩ (l.take i)).r).getD (((l.getD i default).o2).toNat) 0) < (((runM q ⟨Rg, xs⟩ (l.take i)).r).getD (((l.getD i default).o3).toNat) 0)))).toInt)]) (l' := (arrV ((runM q ⟨Rg, xs⟩ (l.take (i + 1))).r))) rfl rfl rfl rfl Try.sizeOf2 (.t (.t .h)) (by show _ ≤ 8; simp only [List.length_singleton]; omega) (arr_set hrk (by omega) hem1) ?_
          rw [hem2]
          refine ⟨.inr (.p (.t .h) .nil), ?_⟩
          refine anyS_done (by kernel_rfl) ?_
          refine blockS_n ?_
          refine blockS_n ?_
          refine thenS_n ?_
          refine wpS_region ?_
          refine s_y (v := .int .i64 ((i : Nat) : Int)) (y_move h10_3) rfl ?_
          refine s_y (v := .int .i64 (((i + 1) : Nat) : Int)) (y_add (a := ((i : Nat) : Int)) (b := 1) rfl rfl (wI (by omega) (by omega) (by omega))) rfl ?_
          refine s_y (v := .int .i64 (((i + 1) : Nat) : Int)) (y_assign rfl) rfl ?_
          refine wpL_nil ?_
          refine thenS_n ?_
          exact ⟨_, by omega, ⟨(i + 1), rfl, by omega, rfl, h0_3, h2_3, h3_3, h5_3, h8_3, rfl, .p (.t (.t .h)) (.p .h (.p (.t .h) .nil))⟩⟩
         ·
          have p13 := of_decide_eq_false b13
          refine wpS_seq ?_
          refine wpS_region ?_
          refine s_y (v := .bool (decide (((l.getD i default).o0 : Int) = 9))) (y_eql (a := (l.getD i default).o0) (b := 9) rfl rfl rfl) rfl ?_
          refine s_y (v := .bool (decide (((l.getD i default).o0 : Int) = 9))) (y_assign rfl) rfl ?_
          refine wpL_nil ?_
          refine thenS_n ?_
          refine wpS_cond (t := decide (((l.getD i default).o0 : Int) = 9)) rfl (fun b14 => ?_) (fun b14 => ?_)
          ·
           have p14 := of_decide_eq_true b14
           have ho0 : (l.getD i default).o0 = 9 := by omega
           refine wpS_anyL [cel b_5 86 [.int .i64 ((l.getD i default).o0), .int .i64 ((l.getD i default).o1), .int .i64 ((l.getD i default).o2), .int .i64 ((l.getD i default).o3), .int .i64 ((l.getD i default).o4), .int .i64 (((l.getD i default).o5).toInt)]] [] (by kernel_rfl) ?_
           refine anyS_take (i := 0) rfl (by kernel_rfl) (by kernel_rfl) (by kernel_rfl) (by kernel_rfl) (Yq.of (v := .pointer (some ⟨b_5, 1, none⟩)) (y_fieldAddr (o' := 1) rfl Try.underlying86 rfl Try.sizeOf3 (by decide) rfl) rfl) (.p .h .nil) ?_
           refine anyS_take (i := 1) rfl (by kernel_rfl) (by kernel_rfl) (by kernel_rfl) (by kernel_rfl) (Yq.of (v := .int .i64 ((l.getD i default).o1)) (y_load1 rfl Try.isAgg3 (own1 .h rfl)) rfl) (.p .h .nil) ?_
           refine anyS_take (i := 2) rfl (by kernel_rfl) (by kernel_rfl) (by kernel_rfl) (by kernel_rfl) (Yq.of (v := .int .i64 ((((runM q ⟨Rg, xs⟩ (l.take i)).r).getD (((l.getD i default).o2).toNat) 0).toInt)) (y_move rfl) rfl) (.p .h .nil) ?_
           refine anyS_take (i := 3) rfl (by kernel_rfl) (by kernel_rfl) (by kernel_rfl) (by kernel_rfl) (Yq.of (v := .int .i64 ((((runM q ⟨Rg, xs⟩ (l.take i)).r).getD (((l.getD i default).o3).toNat) 0).toInt)) (y_move rfl) rfl) (.p .h .nil) ?_
           refine anyS_take (i := 4) rfl (by kernel_rfl) (by kernel_rfl) (by kernel_rfl) (by kernel_rfl) (Yq.of (v := .bool (decide ((((runM q ⟨Rg, xs⟩ (l.take i)).r).getD (((l.getD i default).o2).toNat) 0) = (((runM q ⟨Rg, xs⟩ (l.take i)).r).getD (((l.getD i default).o3).toNat) 0)))) (y_eql (a := (((runM q ⟨Rg, xs⟩ (l.take i)).r).getD (((l.getD i default).o2).toNat) 0).toInt) (b := (((runM q ⟨Rg, xs⟩ (l.take i)).r).getD (((l.getD i default).o3).toNat) 0).toInt) (c := decide ((((runM q ⟨Rg, xs⟩ (l.take i)).r).getD (((l.getD i default).o2).toNat) 0) = (((runM q ⟨Rg, xs⟩ (l.take i)).r).getD (((l.getD i default).o3).toNat) 0))) rfl rfl (i_eql _ _)) rfl) (.p .h .nil) ?_
           refine anyS_take (i := 5) rfl (by kernel_rfl) (by kernel_rfl) (by kernel_rfl) (by kernel_rfl) (Yq.of (v := .int .i64 ((one64 (decide ((((runM q ⟨Rg, xs⟩ (l.take i)).r).getD (((l.getD i default).o2).toNat) 0) = (((runM q ⟨Rg, xs⟩ (l.take i)).r).getD (((l.getD i default).o3).toNat) 0)))).toInt)) (y_call (args := #[.bool (decide ((((runM q ⟨Rg, xs⟩ (l.take i)).r).getD (((l.getD i default).o2).toNat) 0) = (((runM q ⟨Rg, xs⟩ (l.take i)).r).getD (((l.getD i default).o3).toNat) 0)))]) Try.call242 (ev1 rfl) (fun w hs => rone_c (decide ((((runM q ⟨Rg, xs⟩ (l.take i)).r).getD (((l.getD i default).o2).toNat) 0) = (((runM q ⟨Rg, xs⟩ (l.take i)).r).getD (((l.getD i default).o3).toNat) 0))) w)) rfl) (.p .h .nil) ?_
           refine anyS_take (i := 6) rfl (by kernel_rfl) (by kernel_rfl) (by kernel_rfl) (by kernel_rfl) (Yq.of (v := .pointer (some ⟨b_1, 0 + (((l.getD i default).o1).toNat) * 1, none⟩)) (y_idxA (o' := 0 + (((l.getD i default).o1).toNat) * 1) h5_3 rfl Try.underlying199 Try.sizeOf2 (by omega) (by omega) (by omega)) rfl) (.p .h .nil) ?_
           refine anyS_all (rs := [7]) (by kernel_rfl) (by simp) ?_
           intro i hi; obtain rfl := List.mem_singleton.1 hi; clear hi
           refine opS_0 rfl rfl ?_
           have hem1 : (runM q ⟨Rg, xs⟩ (l.take i)).r.set (((l.getD i default).o1).toNat) (one64 (decide ((((runM q ⟨Rg, xs⟩ (l.take i)).r).getD (((l.getD i default).o2).toNat) 0) = (((runM q ⟨Rg, xs⟩ (l.take i)).r).getD (((l.getD i default).o3).toNat) 0)))) = (runM q ⟨Rg, xs⟩ (l.take (i + 1))).r := by
            rw [hst]; unfold stepM; rw [if_neg (by omega)]
            refine congrArg (List.set _ _) (Eq.symm ?_)
            show madeV _ _ _ _ = _
            unfold madeV
            first | (rw [ho0]; first | rfl | exact if_neg (by assumption) | exact if_pos (Decidable.not_not.1 (by assumption))) | (rw [show (l.getD i default).o0 = 11 by omega]; rfl)
           have hem2 : (runM q ⟨Rg, xs⟩ (l.take i)).s = (runM q ⟨Rg, xs⟩ (l.take (i + 1))).s := by rw [hst]; unfold stepM; rw [if_neg (by omega)]
           refine e_store (vs := [.int .i64 ((one64 (decide ((((runM q ⟨Rg, xs⟩ (l.take i)).r).getD (((l.getD i default).o2).toNat) 0) = (((runM q ⟨Rg, xs⟩ (l.take i)).r).getD (((l.getD i default).o3).toNat) 0)))).toInt)]) (l' := (arrV ((runM q ⟨Rg, xs⟩ (l.take (i + 1))).r))) rfl rfl rfl rfl Try.sizeOf2 (.t (.t .h)) (by show _ ≤ 8; simp only [List.length_singleton]; omega) (arr_set hrk (by omega) hem1) ?_
           rw [hem2]
           refine ⟨.inr (.p (.t .h) .nil), ?_⟩
           refine anyS_done (by kernel_rfl) ?_
           refine blockS_n ?_
           refine blockS_n ?_
           refine thenS_n ?_
           refine wpS_region ?_
           refine s_y (v := .int .i64 ((i : Nat) : Int)) (y_move h10_3) rfl ?_
           refine s_y (v := .int .i64 (((i + 1) : Nat) : Int)) (y_add (a := ((i : Nat) : Int)) (b := 1) rfl rfl (wI (by omega) (by omega) (by omega))) rfl ?_
           refine s_y (v := .int .i64 (((i + 1) : Nat) : Int)) (y_assign rfl) rfl ?_
           refine wpL_nil ?_
           refine thenS_n ?_
           exact ⟨_, by omega, ⟨(i + 1), rfl, by omega, rfl, h0_3, h2_3, h3_3, h5_3, h8_3, rfl, .p (.t (.t .h)) (.p .h (.p (.t .h) .nil))⟩⟩
          ·
           have p14 := of_decide_eq_false b14
           refine wpS_seq ?_
           refine wpS_region ?_
           refine s_y (v := .bool (decide (((l.getD i default).o0 : Int) = 10))) (y_eql (a := (l.getD i default).o0) (b := 10) rfl rfl rfl) rfl ?_
           refine s_y (v := .bool (decide (((l.getD i default).o0 : Int) = 10))) (y_assign rfl) rfl ?_
           refine wpL_nil ?_
           refine thenS_n ?_
           refine wpS_cond (t := decide (((l.getD i default).o0 : Int) = 10)) rfl (fun b15 => ?_) (fun b15 => ?_)
           ·
            have p15 := of_decide_eq_true b15
            have ho0 : (l.getD i default).o0 = 10 := by omega
            refine wpS_seq ?_
            refine wpS_region ?_
            refine s_y (v := .int .i64 ((((runM q ⟨Rg, xs⟩ (l.take i)).r).getD (((l.getD i default).o2).toNat) 0).toInt)) (y_move rfl) rfl ?_
            refine s_y (v := .bool (decide ((((runM q ⟨Rg, xs⟩ (l.take i)).r).getD (((l.getD i default).o2).toNat) 0) ≠ 0))) (y_neq (a := (((runM q ⟨Rg, xs⟩ (l.take i)).r).getD (((l.getD i default).o2).toNat) 0).toInt) (b := 0) (c := decide ((((runM q ⟨Rg, xs⟩ (l.take i)).r).getD (((l.getD i default).o2).toNat) 0) ≠ 0)) rfl rfl (i_neqL _ 0 (by decide))) rfl ?_
            refine wpL_nil ?_
            refine thenS_n ?_
            refine wpS_cond (t := decide ((((runM q ⟨Rg, xs⟩ (l.take i)).r).getD (((l.getD i default).o2).toNat) 0) ≠ 0)) rfl (fun b16 => ?_) (fun b16 => ?_)
            ·
             have p16 := of_decide_eq_true b16
             refine wpS_region ?_
             refine s_y (v := .pointer (some ⟨b_5, 1, none⟩)) (y_fieldAddr (o' := 1) rfl Try.underlying86 rfl Try.sizeOf3 (by decide) rfl) rfl ?_
             refine s_y (v := .int .i64 ((l.getD i default).o1)) (y_load1 rfl Try.isAgg3 (own1 .h rfl)) rfl ?_
             refine s_y (v := .int .i64 ((((runM q ⟨Rg, xs⟩ (l.take i)).r).getD (((l.getD i default).o3).toNat) 0).toInt)) (y_move rfl) rfl ?_
             refine s_y (v := .pointer (some ⟨b_1, 0 + (((l.getD i default).o1).toNat) * 1, none⟩)) (y_idxA (o' := 0 + (((l.getD i default).o1).toNat) * 1) h5_3 rfl Try.underlying199 Try.sizeOf2 (by omega) (by omega) (by omega)) rfl ?_
             refine s_e0 ?_
             have hem1 : (runM q ⟨Rg, xs⟩ (l.take i)).r.set (((l.getD i default).o1).toNat) (((runM q ⟨Rg, xs⟩ (l.take i)).r).getD (((l.getD i default).o3).toNat) 0) = (runM q ⟨Rg, xs⟩ (l.take (i + 1))).r := by
              rw [hst]; unfold stepM; rw [if_neg (by omega)]
              refine congrArg (List.set _ _) (Eq.symm ?_)
              show madeV _ _ _ _ = _
              unfold madeV
              first | (rw [ho0]; first | rfl | exact if_neg (by assumption) | exact if_pos (Decidable.not_not.1 (by assumption))) | (rw [show (l.getD i default).o0 = 11 by omega]; rfl)
             have hem2 : (runM q ⟨Rg, xs⟩ (l.take i)).s = (runM q ⟨Rg, xs⟩ (l.take (i + 1))).s := by rw [hst]; unfold stepM; rw [if_neg (by omega)]
             refine e_store (vs := [.int .i64 ((((runM q ⟨Rg, xs⟩ (l.take i)).r).getD (((l.getD i default).o3).toNat) 0).toInt)]) (l' := (arrV ((runM q ⟨Rg, xs⟩ (l.take (i + 1))).r))) rfl rfl rfl rfl Try.sizeOf2 (.t (.t .h)) (by show _ ≤ 8; simp only [List.length_singleton]; omega) (arr_set hrk (by omega) hem1) ?_
             rw [hem2]
             refine wpL_nil ?_
             refine blockS_n ?_
             refine blockS_n ?_
             refine thenS_n ?_
             refine wpS_region ?_
             refine s_y (v := .int .i64 ((i : Nat) : Int)) (y_move h10_3) rfl ?_
             refine s_y (v := .int .i64 (((i + 1) : Nat) : Int)) (y_add (a := ((i : Nat) : Int)) (b := 1) rfl rfl (wI (by omega) (by omega) (by omega))) rfl ?_
             refine s_y (v := .int .i64 (((i + 1) : Nat) : Int)) (y_assign rfl) rfl ?_
             refine wpL_nil ?_
             refine thenS_n ?_
             exact ⟨_, by omega, ⟨(i + 1), rfl, by omega, rfl, h0_3, h2_3, h3_3, h5_3, h8_3, rfl, .p (.t (.t .h)) (.p .h (.p (.t .h) .nil))⟩⟩
            ·
             have p16 := of_decide_eq_false b16
             refine wpS_region ?_
             refine s_y (v := .pointer (some ⟨b_5, 1, none⟩)) (y_fieldAddr (o' := 1) rfl Try.underlying86 rfl Try.sizeOf3 (by decide) rfl) rfl ?_
             refine s_y (v := .int .i64 ((l.getD i default).o1)) (y_load1 rfl Try.isAgg3 (own1 .h rfl)) rfl ?_
             refine s_y (v := .int .i64 ((((runM q ⟨Rg, xs⟩ (l.take i)).r).getD (((l.getD i default).o4).toNat) 0).toInt)) (y_move rfl) rfl ?_
             refine s_y (v := .pointer (some ⟨b_1, 0 + (((l.getD i default).o1).toNat) * 1, none⟩)) (y_idxA (o' := 0 + (((l.getD i default).o1).toNat) * 1) h5_3 rfl Try.underlying199 Try.sizeOf2 (by omega) (by omega) (by omega)) rfl ?_
             refine s_e0 ?_
             have hem1 : (runM q ⟨Rg, xs⟩ (l.take i)).r.set (((l.getD i default).o1).toNat) (((runM q ⟨Rg, xs⟩ (l.take i)).r).getD (((l.getD i default).o4).toNat) 0) = (runM q ⟨Rg, xs⟩ (l.take (i + 1))).r := by
              rw [hst]; unfold stepM; rw [if_neg (by omega)]
              refine congrArg (List.set _ _) (Eq.symm ?_)
              show madeV _ _ _ _ = _
              unfold madeV
              first | (rw [ho0]; first | rfl | exact if_neg (by assumption) | exact if_pos (Decidable.not_not.1 (by assumption))) | (rw [show (l.getD i default).o0 = 11 by omega]; rfl)
             have hem2 : (runM q ⟨Rg, xs⟩ (l.take i)).s = (runM q ⟨Rg, xs⟩ (l.take (i + 1))).s := by rw [hst]; unfold stepM; rw [if_neg (by omega)]
             refine e_store (vs := [.int .i64 ((((runM q ⟨Rg, xs⟩ (l.take i)).r).getD (((l.getD i default).o4).toNat) 0).toInt)]) (l' := (arrV ((runM q ⟨Rg, xs⟩ (l.take (i + 1))).r))) rfl rfl rfl rfl Try.sizeOf2 (.t (.t .h)) (by show _ ≤ 8; simp only [List.length_singleton]; omega) (arr_set hrk (by omega) hem1) ?_
             rw [hem2]
             refine wpL_nil ?_
             refine blockS_n ?_
             refine blockS_n ?_
             refine thenS_n ?_
             refine wpS_region ?_
             refine s_y (v := .int .i64 ((i : Nat) : Int)) (y_move h10_3) rfl ?_
             refine s_y (v := .int .i64 (((i + 1) : Nat) : Int)) (y_add (a := ((i : Nat) : Int)) (b := 1) rfl rfl (wI (by omega) (by omega) (by omega))) rfl ?_
             refine s_y (v := .int .i64 (((i + 1) : Nat) : Int)) (y_assign rfl) rfl ?_
             refine wpL_nil ?_
             refine thenS_n ?_
             exact ⟨_, by omega, ⟨(i + 1), rfl, by omega, rfl, h0_3, h2_3, h3_3, h5_3, h8_3, rfl, .p (.t (.t .h)) (.p .h (.p (.t .h) .nil))⟩⟩
           ·
            have p15 := of_decide_eq_false b15
            refine wpS_seq ?_
            refine wpS_region ?_
            refine s_y (v := .bool (decide (((l.getD i default).o0 : Int) = 11))) (y_eql (a := (l.getD i default).o0) (b := 11) rfl rfl rfl) rfl ?_
            refine s_y (v := .bool (decide (((l.getD i default).o0 : Int) = 11))) (y_assign rfl) rfl ?_
            refine wpL_nil ?_
            refine thenS_n ?_
            refine wpS_cond (t := decide (((l.getD i default).o0 : Int) = 11)) rfl (fun b17 => ?_) (fun b17 => ?_)
            ·
             have p17 := of_decide_eq_true b17
             have ho0 : (l.getD i default).o0 = 11 := by omega
             refine wpS_region ?_
             refine s_y (v := .pointer (some ⟨b_5, 1, none⟩)) (y_fieldAddr (o' := 1) rfl Try.underlying86 rfl Try.sizeOf3 (by decide) rfl) rfl ?_
             refine s_y (v := .int .i64 ((l.getD i default).o1)) (y_load1 rfl Try.isAgg3 (own1 .h rfl)) rfl ?_
             refine s_y (v := .int .i64 ((((runM q ⟨Rg, xs⟩ (l.take i)).r).getD (((l.getD i default).o2).toNat) 0).toInt)) (y_move rfl) rfl ?_
             refine s_y (v := .int .i64 ((((runM q ⟨Rg, xs⟩ (l.take i)).r).getD (((l.getD i default).o3).toNat) 0).toInt)) (y_move rfl) rfl ?_
             refine s_y (v := .int .i64 (((((runM q ⟨Rg, xs⟩ (l.take i)).r).getD (((l.getD i default).o3).toNat) 0) &&& 63).toInt)) (y_and (a := (((runM q ⟨Rg, xs⟩ (l.take i)).r).getD (((l.getD i default).o3).toNat) 0).toInt) (b := 63) rfl rfl (i_and (((runM q ⟨Rg, xs⟩ (l.take i)).r).getD (((l.getD i default).o3).toNat) 0) 63)) rfl ?_
             refine s_y (v := .int .u64 ((((((runM q ⟨Rg, xs⟩ (l.take i)).r).getD (((l.getD i default).o3).toNat) 0) &&& 63).toUInt64).toNat)) (y_convI (a := ((((runM q ⟨Rg, xs⟩ (l.take i)).r).getD (((l.getD i default).o3).toNat) 0) &&& 63).toInt) rfl Try.underlying2 Try.underlying46 (iu_conv _)) rfl ?_
             refine s_y (v := .int .i64 (((((runM q ⟨Rg, xs⟩ (l.take i)).r).getD (((l.getD i default).o2).toNat) 0) >>> ((((runM q ⟨Rg, xs⟩ (l.take i)).r).getD (((l.getD i default).o3).toNat) 0) &&& 63)).toInt)) (y_shr (a := (((runM q ⟨Rg, xs⟩ (l.take i)).r).getD (((l.getD i default).o2).toNat) 0).toInt) (b := (((((runM q ⟨Rg, xs⟩ (l.take i)).r).getD (((l.getD i default).o3).toNat) 0) &&& 63).toUInt64).toNat) rfl rfl (by omega) (i_sar (((runM q ⟨Rg, xs⟩ (l.take i)).r).getD (((l.getD i default).o2).toNat) 0) (((runM q ⟨Rg, xs⟩ (l.take i)).r).getD (((l.getD i default).o3).toNat) 0))) rfl ?_
             refine s_y (v := .pointer (some ⟨b_1, 0 + (((l.getD i default).o1).toNat) * 1, none⟩)) (y_idxA (o' := 0 + (((l.getD i default).o1).toNat) * 1) h5_3 rfl Try.underlying199 Try.sizeOf2 (by omega) (by omega) (by omega)) rfl ?_
             refine s_e0 ?_
             have hem1 : (runM q ⟨Rg, xs⟩ (l.take i)).r.set (((l.getD i default).o1).toNat) ((((runM q ⟨Rg, xs⟩ (l.take i)).r).getD (((l.getD i default).o2).toNat) 0) >>> ((((runM q ⟨Rg, xs⟩ (l.take i)).r).getD (((l.getD i default).o3).toNat) 0) &&& 63)) = (runM q ⟨Rg, xs⟩ (l.take (i + 1))).r := by
              rw [hst]; unfold stepM; rw [if_neg (by omega)]
              refine congrArg (List.set _ _) (Eq.symm ?_)
              show madeV _ _ _ _ = _
              unfold madeV
              first | (rw [ho0]; first | rfl | exact if_neg (by assumption) | exact if_pos (Decidable.not_not.1 (by assumption))) | (rw [show (l.getD i default).o0 = 11 by omega]; rfl)
             have hem2 : (runM q ⟨Rg, xs⟩ (l.take i)).s = (runM q ⟨Rg, xs⟩ (l.take (i + 1))).s := by rw [hst]; unfold stepM; rw [if_neg (by omega)]
             refine e_store (vs := [.int .i64 (((((runM q ⟨Rg, xs⟩ (l.take i)).r).getD (((l.getD i default).o2).toNat) 0) >>> ((((runM q ⟨Rg, xs⟩ (l.take i)).r).getD (((l.getD i default).o3).toNat) 0) &&& 63)).toInt)]) (l' := (arrV ((runM q ⟨Rg, xs⟩ (l.take (i + 1))).r))) rfl rfl rfl rfl Try.sizeOf2 (.t (.t .h)) (by show _ ≤ 8; simp only [List.length_singleton]; omega) (arr_set hrk (by omega) hem1) ?_
             rw [hem2]
             refine wpL_nil ?_
             refine blockS_n ?_
             refine blockS_n ?_
             refine thenS_n ?_
             refine wpS_region ?_
             refine s_y (v := .int .i64 ((i : Nat) : Int)) (y_move h10_3) rfl ?_
             refine s_y (v := .int .i64 (((i + 1) : Nat) : Int)) (y_add (a := ((i : Nat) : Int)) (b := 1) rfl rfl (wI (by omega) (by omega) (by omega))) rfl ?_
             refine s_y (v := .int .i64 (((i + 1) : Nat) : Int)) (y_assign rfl) rfl ?_
             refine wpL_nil ?_
             refine thenS_n ?_
             exact ⟨_, by omega, ⟨(i + 1), rfl, by omega, rfl, h0_3, h2_3, h3_3, h5_3, h8_3, rfl, .p (.t (.t .h)) (.p .h (.p (.t .h) .nil))⟩⟩
            ·
             have p17 := of_decide_eq_false b17
             have ho0 : (l.getD i default).o0 = 12 := by omega
             have hsl2 := op_slot hop ho0
             refine wpS_seq ?_
             refine wpS_region ?_
             refine s_y (v := .bool (decide (((l.getD i default).o0 : Int) = 12))) (y_eql (a := (l.getD i default).o0) (b := 12) rfl rfl rfl) rfl ?_
             refine s_y (v := .bool (decide (((l.getD i default).o0 : Int) = 12))) (y_assign rfl) rfl ?_
             refine wpL_nil ?_
             refine thenS_n ?_
             refine wpS_cond_T (t := decide (((l.getD i default).o0 : Int) = 12)) rfl (decide_eq_true (by omega)) ?_
             refine wpS_seq ?_
             refine wpS_anyL [cel b_5 86 [.int .i64 ((l.getD i default).o0), .int .i64 ((l.getD i default).o1), .int .i64 ((l.getD i default).o2), .int .i64 ((l.getD i default).o3), .int .i64 ((l.getD i default).o4), .int .i64 (((l.getD i default).o5).toInt)]] [] (by kernel_rfl) ?_
             refine anyS_take (i := 0) rfl (by kernel_rfl) (by kernel_rfl) (by kernel_rfl) (by kernel_rfl) (Yq.of (v := .slice sa sn sc) (y_move h2_3) rfl) (.p .h .nil) ?_
             refine anyS_take (i := 1) rfl (by kernel_rfl) (by kernel_rfl) (by kernel_rfl) (by kernel_rfl) (Yq.of (v := .pointer (some ⟨b_5, 5, none⟩)) (y_fieldAddr (o' := 5) rfl Try.underlying86 rfl Try.sizeOf2 (by decide) rfl) rfl) (.p .h .nil) ?_
             refine anyS_take (i := 2) rfl (by kernel_rfl) (by kernel_rfl) (by kernel_rfl) (by kernel_rfl) (Yq.of (v := .int .i64 (((l.getD i default).o5).toInt)) (y_load1 rfl Try.isAgg2 (own1 .h rfl)) rfl) (.p .h .nil) ?_
             refine anyS_take (i := 3) rfl (by kernel_rfl) (by kernel_rfl) (by kernel_rfl) (by kernel_rfl) (Yq.of (v := .agg #[.bool deadR.dead, .int .i64 deadR.key.toInt, .int .i64 deadR.value.toInt, .int .i64 deadR.seq.toInt]) (y_call (args := #[]) Try.call178 ev0 (fun w hs => refdead_c w)) rfl) (.p .h .nil) ?_
             refine anyS_all (rs := [4]) (by kernel_rfl) (by simp) ?_
             intro i hi; obtain rfl := List.mem_singleton.1 hi; clear hi
             refine opS_0 rfl rfl ?_
             refine OpE.y (v := .pointer (some ⟨aB sa, aO sa + ((((l.getD i default).o5).toInt).toNat) * 4, none⟩)) (y_idx (o := ((((l.getD i default).o5).toInt).toNat) * 4) rfl rfl Try.underlying69 Try.sizeOf23 (oslR (.t (.t (.t .h)))) ((fl_len recV_len _).trans (by first | omega | (simp only [List.length_set, List.length_take, List.length_drop]; done) | (simp only [List.length_set, List.length_take, List.length_drop]; omega))) (by decide) (by omega) (by omega) (by omega)) ?_
             refine ⟨.inr (.p .h .nil), ?_⟩
             refine anyS_all (rs := [5]) (by kernel_rfl) (by simp) ?_
             intro i hi; obtain rfl := List.mem_singleton.1 hi; clear hi
             refine opS_0 rfl rfl ?_
             refine e_storeL (enc := recV) (xs := (runM q ⟨Rg, xs⟩ (l.take i)).s) (y := deadR) recV_len recV_one (by decide) rfl rfl rfl Try.sizeOf23 (.t (.t (.t .h))) (by (try simp only [List.length_set]); omega) ?_
             refine ⟨.inr (.p (.t .h) .nil), ?_⟩
             refine anyS_done (by kernel_rfl) ?_
             refine thenS_n ?_
             refine wpS_seq ?_
             refine wpS_region ?_
             refine s_y (v := .int .i64 ((((runM q ⟨Rg, xs⟩ (l.take i)).r).getD (((l.getD i default).o4).toNat) 0).toInt)) (y_move rfl) rfl ?_
             refine s_y (v := .bool (decide ((((runM q ⟨Rg, xs⟩ (l.take i)).r).getD (((l.getD i default).o4).toNat) 0) ≠ 0))) (y_neq (a := (((runM q ⟨Rg, xs⟩ (l.take i)).r).getD (((l.getD i default).o4).toNat) 0).toInt) (b := 0) (c := decide ((((runM q ⟨Rg, xs⟩ (l.take i)).r).getD (((l.getD i default).o4).toNat) 0) ≠ 0)) rfl rfl (i_neqL _ 0 (by decide))) rfl ?_
             refine wpL_nil ?_
             refine thenS_n ?_
             refine wpS_cond (t := decide ((((runM q ⟨Rg, xs⟩ (l.take i)).r).getD (((l.getD i default).o4).toNat) 0) ≠ 0)) rfl (fun b18 => ?_) (fun b18 => ?_)
             ·
              have p18 := of_decide_eq_true b18
              refine wpS_region ?_
              refine s_y (v := .slice sa sn sc) (y_move h2_3) rfl ?_
              refine s_y (v := .pointer (some ⟨b_5, 5, none⟩)) (y_fieldAddr (o' := 5) rfl Try.underlying86 rfl Try.sizeOf2 (by decide) rfl) rfl ?_
              refine s_y (v := .int .i64 (((l.getD i default).o5).toInt)) (y_load1 rfl Try.isAgg2 (own1 (.t .h) rfl)) rfl ?_
              refine s_y (v := .int .i64 ((((runM q ⟨Rg, xs⟩ (l.take i)).r).getD (((l.getD i default).o2).toNat) 0).toInt)) (y_move rfl) rfl ?_
              refine s_y (v := .int .i64 ((((runM q ⟨Rg, xs⟩ (l.take i)).r).getD (((l.getD i default).o3).toNat) 0).toInt)) (y_move rfl) rfl ?_
              refine s_y (v := .int .i64 q.toInt) (y_move h3_3) rfl ?_
              refine s_y (v := .pointer (some ⟨b_5, 5, none⟩)) (y_fieldAddr (o' := 5) rfl Try.underlying86 rfl Try.sizeOf2 (by decide) rfl) rfl ?_
              refine s_y (v := .int .i64 (((l.getD i default).o5).toInt)) (y_load1 rfl Try.isAgg2 (own1 (.t .h) rfl)) rfl ?_
              refine s_y (v := .int .i64 ((q + ((l.getD i default).o5)).toInt)) (y_add (a := q.toInt) (b := ((l.getD i default).o5).toInt) rfl rfl (i_add _ _)) rfl ?_
              refine s_y (v := .agg #[.bool false, .int .i64 ((((runM q ⟨Rg, xs⟩ (l.take i)).r).getD (((l.getD i default).o2).toNat) 0).toInt), .int .i64 ((((runM q ⟨Rg, xs⟩ (l.take i)).r).getD (((l.getD i default).o3).toNat) 0).toInt), .int .i64 ((q + ((l.getD i default).o5)).toInt)]) (y_buildL (m := [(1, .int .i64 ((((runM q ⟨Rg, xs⟩ (l.take i)).r).getD (((l.getD i default).o2).toNat) 0).toInt)), (2, .int .i64 ((((runM q ⟨Rg, xs⟩ (l.take i)).r).getD (((l.getD i default).o3).toNat) 0).toInt)), (3, .int .i64 ((q + ((l.getD i default).o5)).toInt))]) (vs := #[.bool false, .int .i64 ((((runM q ⟨Rg, xs⟩ (l.take i)).r).getD (((l.getD i default).o2).toNat) 0).toInt), .int .i64 ((((runM q ⟨Rg, xs⟩ (l.take i)).r).getD (((l.getD i default).o3).toNat) 0).toInt), .int .i64 ((q + ((l.getD i default).o5)).toInt)]) (evc rfl (evc rfl (evc rfl evn))) (fun w => by kernel_rfl)) rfl ?_
              refine s_y (v := .pointer (some ⟨aB sa, aO sa + ((((l.getD i default).o5).toInt).toNat) * 4, none⟩)) (y_idx (o := ((((l.getD i default).o5).toInt).toNat) * 4) rfl rfl Try.underlying69 Try.sizeOf23 (oslR .h) ((fl_len recV_len _).trans (by first | omega | (simp only [List.length_set, List.length_take, List.length_drop]; done) | (simp only [List.length_set, List.length_take, List.length_drop]; omega))) (by decide) (by omega) (by omega) (by omega)) rfl ?_
              refine s_e0 ?_
              refine e_storeL (enc := recV) (xs := (((runM q ⟨Rg, xs⟩ (l.take i)).s).set ((((l.getD i default).o5).toInt).toNat) deadR)) (y := (Rec.mk false (((runM q ⟨Rg, xs⟩ (l.take i)).r).getD (((l.getD i default).o2).toNat) 0) (((runM q ⟨Rg, xs⟩ (l.take i)).r).getD (((l.getD i default).o3).toNat) 0) (q + ((l.getD i default).o5)))) recV_len recV_one (by decide) rfl rfl rfl Try.sizeOf23 .h (by (try simp only [List.length_set]); omega) ?_
              refine wpL_nil ?_
              refine blockS_n ?_
              refine blockS_n ?_
              refine thenS_n ?_
              refine wpS_region ?_
              refine s_y (v := .int .i64 ((i : Nat) : Int)) (y_move h10_3) rfl ?_
              refine s_y (v := .int .i64 (((i + 1) : Nat) : Int)) (y_add (a := ((i : Nat) : Int)) (b := 1) rfl rfl (wI (by omega) (by omega) (by omega))) rfl ?_
              refine s_y (v := .int .i64 (((i + 1) : Nat) : Int)) (y_assign rfl) rfl ?_
              refine wpL_nil ?_
              refine thenS_n ?_
              have hem := hst.trans (step_e2 ho0 p18)
              have hem1 : ((((runM q ⟨Rg, xs⟩ (l.take i)).s).set ((((l.getD i default).o5).toInt).toNat) deadR).set ((((l.getD i default).o5).toInt).toNat) (Rec.mk false (((runM q ⟨Rg, xs⟩ (l.take i)).r).getD (((l.getD i default).o2).toNat) 0) (((runM q ⟨Rg, xs⟩ (l.take i)).r).getD (((l.getD i default).o3).toNat) 0) (q + ((l.getD i default).o5)))) = (runM q ⟨Rg, xs⟩ (l.take (i + 1))).s := by rw [hem]
              have hem2 : (runM q ⟨Rg, xs⟩ (l.take i)).r = (runM q ⟨Rg, xs⟩ (l.take (i + 1))).r := by rw [hem]
              rw [hem1]
              rw [hem2]
              exact ⟨_, by omega, ⟨(i + 1), rfl, by omega, rfl, h0_3, h2_3, h3_3, h5_3, h8_3, rfl, .p (.t (.t .h)) (.p (.t (.t .h)) (.p .h .nil))⟩⟩
             ·
              have p18 := of_decide_eq_false b18
              refine wpS_skip ?_
              refine blockS_n ?_
              refine blockS_n ?_
              refine thenS_n ?_
              refine wpS_region ?_
              refine s_y (v := .int .i64 ((i : Nat) : Int)) (y_move h10_3) rfl ?_
              refine s_y (v := .int .i64 (((i + 1) : Nat) : Int)) (y_add (a := ((i : Nat) : Int)) (b := 1) rfl rfl (wI (by omega) (by omega) (by omega))) rfl ?_
              refine s_y (v := .int .i64 (((i + 1) : Nat) : Int)) (y_assign rfl) rfl ?_
              refine wpL_nil ?_
              refine thenS_n ?_
              have hem := hst.trans (step_e1 ho0 (Decidable.not_not.1 p18))
              have hem1 : (((runM q ⟨Rg, xs⟩ (l.take i)).s).set ((((l.getD i default).o5).toInt).toNat) deadR) = (runM q ⟨Rg, xs⟩ (l.take (i + 1))).s := by rw [hem]
              have hem2 : (runM q ⟨Rg, xs⟩ (l.take i)).r = (runM q ⟨Rg, xs⟩ (l.take (i + 1))).r := by rw [hem]
              rw [hem1]
              rw [hem2]
              exact ⟨_, by omega, ⟨(i + 1), rfl, by omega, rfl, h0_3, h2_3, h3_3, h5_3, h8_3, rfl, .p (.t (.t .h)) (.p (.t (.t .h)) (.p .h .nil))⟩⟩
 ·
  have p4 := of_decide_eq_false b4
  refine wpS_exit ?_
  refine thenS_x ?_
  refine thenS_x ?_
  refine blockS_h ?_
  refine thenS_n ?_
  refine wpS_seq ?_
  refine wpS_region ?_
  refine s_y (v := .agg #[.int .i64 ((((runM q ⟨Rg, xs⟩ (l.take i)).r).getD 0 0).toInt), .int .i64 ((((runM q ⟨Rg, xs⟩ (l.take i)).r).getD 1 0).toInt), .int .i64 ((((runM q ⟨Rg, xs⟩ (l.take i)).r).getD 2 0).toInt), .int .i64 ((((runM q ⟨Rg, xs⟩ (l.take i)).r).getD 3 0).toInt), .int .i64 ((((runM q ⟨Rg, xs⟩ (l.take i)).r).getD 4 0).toInt), .int .i64 ((((runM q ⟨Rg, xs⟩ (l.take i)).r).getD 5 0).toInt), .int .i64 ((((runM q ⟨Rg, xs⟩ (l.take i)).r).getD 6 0).toInt), .int .i64 ((((runM q ⟨Rg, xs⟩ (l.take i)).r).getD 7 0).toInt)]) (y_loadN h5_3 Try.isAgg199 Try.sizeOf199 (ownN (.t .h) rfl)) rfl ?_
  refine s_y (v := .slice sa sn sc) (y_move h2_3) rfl ?_
  refine s_e0 ?_
  refine e_store (vs := [.int .i64 ((((runM q ⟨Rg, xs⟩ (l.take i)).r).getD 0 0).toInt), .int .i64 ((((runM q ⟨Rg, xs⟩ (l.take i)).r).getD 1 0).toInt), .int .i64 ((((runM q ⟨Rg, xs⟩ (l.take i)).r).getD 2 0).toInt), .int .i64 ((((runM q ⟨Rg, xs⟩ (l.take i)).r).getD 3 0).toInt), .int .i64 ((((runM q ⟨Rg, xs⟩ (l.take i)).r).getD 4 0).toInt), .int .i64 ((((runM q ⟨Rg, xs⟩ (l.take i)).r).getD 5 0).toInt), .int .i64 ((((runM q ⟨Rg, xs⟩ (l.take i)).r).getD 6 0).toInt), .int .i64 ((((runM q ⟨Rg, xs⟩ (l.take i)).r).getD 7 0).toInt)]) (l' := [.int .i64 ((((runM q ⟨Rg, xs⟩ (l.take i)).r).getD 0 0).toInt), .int .i64 ((((runM q ⟨Rg, xs⟩ (l.take i)).r).getD 1 0).toInt), .int .i64 ((((runM q ⟨Rg, xs⟩ (l.take i)).r).getD 2 0).toInt), .int .i64 ((((runM q ⟨Rg, xs⟩ (l.take i)).r).getD 3 0).toInt), .int .i64 ((((runM q ⟨Rg, xs⟩ (l.take i)).r).getD 4 0).toInt), .int .i64 ((((runM q ⟨Rg, xs⟩ (l.take i)).r).getD 5 0).toInt), .int .i64 ((((runM q ⟨Rg, xs⟩ (l.take i)).r).getD 6 0).toInt), .int .i64 ((((runM q ⟨Rg, xs⟩ (l.take i)).r).getD 7 0).toInt)]) h8_3 rfl rfl rfl Try.sizeOf199 .h (Nat.le_of_ble_eq_true rfl) rfl ?_
  refine s_y (v := .slice sa sn sc) (y_assign rfl) rfl ?_
  refine wpL_nil ?_
  refine thenS_n ?_
  refine wpS_ret ?_
  have hle : l.take i = l := List.take_of_length_le (by omega)
  refine fin2 (M := [cel b_2 199 [.int .i64 ((((runM q ⟨Rg, xs⟩ (l.take i)).r).getD 0 0).toInt), .int .i64 ((((runM q ⟨Rg, xs⟩ (l.take i)).r).getD 1 0).toInt), .int .i64 ((((runM q ⟨Rg, xs⟩ (l.take i)).r).getD 2 0).toInt), .int .i64 ((((runM q ⟨Rg, xs⟩ (l.take i)).r).getD 3 0).toInt), .int .i64 ((((runM q ⟨Rg, xs⟩ (l.take i)).r).getD 4 0).toInt), .int .i64 ((((runM q ⟨Rg, xs⟩ (l.take i)).r).getD 5 0).toInt), .int .i64 ((((runM q ⟨Rg, xs⟩ (l.take i)).r).getD 6 0).toInt), .int .i64 ((((runM q ⟨Rg, xs⟩ (l.take i)).r).getD 7 0).toInt)], osl sa sc sn 4 23 (((runM q ⟨Rg, xs⟩ (l.take i)).s).flatMap recV)]) (.inr rfl) (.p .h (.p (.t .h) .nil)) Try.results231 (rvC (vs := [.int .i64 ((((runM q ⟨Rg, xs⟩ (l.take i)).r).getD 0 0).toInt), .int .i64 ((((runM q ⟨Rg, xs⟩ (l.take i)).r).getD 1 0).toInt), .int .i64 ((((runM q ⟨Rg, xs⟩ (l.take i)).r).getD 2 0).toInt), .int .i64 ((((runM q ⟨Rg, xs⟩ (l.take i)).r).getD 3 0).toInt), .int .i64 ((((runM q ⟨Rg, xs⟩ (l.take i)).r).getD 4 0).toInt), .int .i64 ((((runM q ⟨Rg, xs⟩ (l.take i)).r).getD 5 0).toInt), .int .i64 ((((runM q ⟨Rg, xs⟩ (l.take i)).r).getD 6 0).toInt), .int .i64 ((((runM q ⟨Rg, xs⟩ (l.take i)).r).getD 7 0).toInt)]) h8_3 Try.isAgg199 Try.sizeOf199 (fun w hs => ownN .h rfl w hs)) (rvT (v := .slice sa sn sc) rfl) ?_
  exact fun w' hs => ⟨by rw [hle], by have h2 := hs.ent (.p (.t .h) .nil); rw [hle] at h2; exact h2⟩
theorem gfold_c (k : Int) (a1 a2 a3 : Option Addr) (n1 c1 n2 c2 n3 c3 : Nat) (l1 l2 l3 : List Opc) (u v : Int64) (w : World) (hn1 : l1.length = n1) (hr1 : Rds w a1 (l1.flatMap opcV)) (hb1 : n1 ≤ 1000000) (hn2 : l2.length = n2) (hr2 : Rds w a2 (l2.flatMap opcV)) (hb2 : n2 ≤ 1000000) (hn3 : l3.length = n3) (hr3 : Rds w a3 (l3.flatMap opcV)) (hb3 : n3 ≤ 1000000) : Pure Try.prog 179 #[.agg #[.int .i64 k, .slice a1 n1 c1, .slice a2 n2 c2, .slice a3 n3 c3], .int .i64 u.toInt, .int .i64 v.toInt] w (.int .i64 ((doneC (chkB k l1 l2 l3) l2 u v).toInt)) := by
 refine calls_S (n := 23) (σ0 := (upd (upd (upd fr0 0 (.agg #[.int .i64 k, .slice a1 n1 c1, .slice a2 n2 c2, .slice a3 n3 c3])) 1 (.int .i64 u.toInt)) 2 (.int .i64 v.toInt))) (D := []) (A := []) Try.func179 rfl Try.ntmps179 rfl (a3_fr _ _ _) (SH.start w) ?_
 refine wpS_seq ?_
 refine wpS_region ?_
 refine s_e rfl ?_
 refine e_box (v := .agg #[.int .i64 k, .slice a1 n1 c1, .slice a2 n2 c2, .slice a3 n3 c3]) (l := [.int .i64 k, .slice a1 n1 c1, .slice a2 n2 c2, .slice a3 n3 c3]) rfl rfl ?_
 intro b_1
 refine s_y (v := .int .i64 0) (y_assign rfl) rfl ?_
 refine wpL_nil ?_
 refine thenS_n ?_
 refine wpS_seq ?_
 refine wpS_seq ?_
 refine wpS_region ?_
 refine s_y (v := .agg #[.int .i64 k, .slice a1 n1 c1, .slice a2 n2 c2, .slice a3 n3 c3]) (y_loadN rfl Try.isAgg84 Try.sizeOf84 (ownN .h rfl)) rfl ?_
 refine s_y (v := .int .i64 (chk11 k l1 l2 l3)) (y_call (args := #[.agg #[.int .i64 k, .slice a1 n1 c1, .slice a2 n2 c2, .slice a3 n3 c3]]) Try.call93 (ev1 rfl) (fun w hs => rcheck_c k a1 a2 a3 n1 c1 n2 c2 n3 c3 l1 l2 l3 w hn1 ((oldR hr1) w hs) (by omega) hn2 ((oldR hr2) w hs) (by omega) hn3 ((oldR hr3) w hs) (by omega))) rfl ?_
 refine s_y (v := .bool (decide ((chk11 k l1 l2 l3 : Int) ≠ 0))) (y_neq (a := chk11 k l1 l2 l3) (b := 0) rfl rfl rfl) rfl ?_
 refine wpL_nil ?_
 refine thenS_n ?_
 refine wpS_cond (t := decide ((chk11 k l1 l2 l3 : Int) ≠ 0)) rfl (fun b2 => ?_) (fun b2 => ?_)
 ·
  have p2 := of_decide_eq_true b2
  have hno : chkB k l1 l2 l3 = false := chk_no p2
  refine wpS_seq ?_
  refine wpS_region ?_
  refine s_y (v := .int .i64 0) (y_assign rfl) rfl ?_
  refine wpL_nil ?_
  refine thenS_n ?_
  refine wpS_ret ?_
  refine thenS_r ?_
  refine fin1 (v := .int .i64 0) (.inr rfl) (.nil) Try.results179 rfl ?_
  exact fun w' hs => ⟨congrArg (fun z : Int64 => Ending.returned (.int .i64 z.toInt)) (by unfold doneC; rw [if_neg (by rw [hno]; decide)] : (0 : Int64) = _), hs⟩
 ·
  have p2 := of_decide_eq_false b2
  have hok : chkB k l1 l2 l3 = true := chk_yes (Decidable.not_not.1 p2)
  obtain ⟨hk1, hk4, hp1, hp2, hp3⟩ := chk_bd hok
  refine wpS_skip ?_
  refine thenS_n ?_
  refine wpS_seq ?_
  refine wpS_region ?_
  refine s_y (v := .pointer (some ⟨b_1, 2, none⟩)) (y_fieldAddr (o' := 2) rfl Try.underlying84 rfl Try.sizeOf82 (by decide) rfl) rfl ?_
  refine s_y (v := .slice a2 n2 c2) (y_load1 rfl Try.isAgg82 (own1 .h rfl)) rfl ?_
  refine s_y (v := .int .i64 u.toInt) (y_move rfl) rfl ?_
  refine s_y (v := .int .i64 v.toInt) (y_move rfl) rfl ?_
  refine s_y (v := .agg #[.int .i64 u.toInt, .int .i64 v.toInt, .int .i64 0, .int .i64 0, .int .i64 0, .int .i64 0, .int .i64 0, .int .i64 0]) (y_buildL (m := [(0, .int .i64 u.toInt), (1, .int .i64 v.toInt)]) (vs := #[.int .i64 u.toInt, .int .i64 v.toInt, .int .i64 0, .int .i64 0, .int .i64 0, .int .i64 0, .int .i64 0, .int .i64 0]) (evc rfl (evc rfl evn)) (fun w => by kernel_rfl)) rfl ?_
  refine s_e rfl ?_
  refine OpE.ent (fun w hs => SH.nil0 (sz := 4) (t := 23) w hs) ?_
  refine e_call (f := 231) (args := #[.slice a2 n2 c2, .agg #[.int .i64 u.toInt, .int .i64 v.toInt, .int .i64 0, .int .i64 0, .int .i64 0, .int .i64 0, .int .i64 0, .int .i64 0], .slice none 0 0, .int .i64 0]) (X := Unit) (A := [osl none 0 0 4 23 (([] : List Rec).flatMap recV)]) (M := [cel b_1 84 [.int .i64 k, .slice a1 n1 c1, .slice a2 n2 c2, .slice a3 n3 c3]]) (V := fun _ => .tuple #[.agg #[.int .i64 (((runM 0 ⟨([u, v, 0, 0, 0, 0, 0, 0] : List Int64), ([] : List Rec)⟩ l2).r.getD 0 0).toInt), .int .i64 (((runM 0 ⟨([u, v, 0, 0, 0, 0, 0, 0] : List Int64), ([] : List Rec)⟩ l2).r.getD 1 0).toInt), .int .i64 (((runM 0 ⟨([u, v, 0, 0, 0, 0, 0, 0] : List Int64), ([] : List Rec)⟩ l2).r.getD 2 0).toInt), .int .i64 (((runM 0 ⟨([u, v, 0, 0, 0, 0, 0, 0] : List Int64), ([] : List Rec)⟩ l2).r.getD 3 0).toInt), .int .i64 (((runM 0 ⟨([u, v, 0, 0, 0, 0, 0, 0] : List Int64), ([] : List Rec)⟩ l2).r.getD 4 0).toInt), .int .i64 (((runM 0 ⟨([u, v, 0, 0, 0, 0, 0, 0] : List Int64), ([] : List Rec)⟩ l2).r.getD 5 0).toInt), .int .i64 (((runM 0 ⟨([u, v, 0, 0, 0, 0, 0, 0] : List Int64), ([] : List Rec)⟩ l2).r.getD 6 0).toInt), .int .i64 (((runM 0 ⟨([u, v, 0, 0, 0, 0, 0, 0] : List Int64), ([] : List Rec)⟩ l2).r.getD 7 0).toInt)], .slice none 0 0]) (A' := fun _ => [osl none 0 0 4 23 (((runM 0 ⟨([u, v, 0, 0, 0, 0, 0, 0] : List Int64), ([] : List Rec)⟩ l2).s).flatMap recV)]) (C := fun _ => True) Try.call231 (ev4 rfl rfl rfl rfl) (.p .h (.p .h .nil)) (fun w hs => (grun_c a2 n2 c2 l2 ([u, v, 0, 0, 0, 0, 0, 0] : List Int64) none 0 0 ([] : List Rec) 0 0 w rfl (by first | rfl | omega | (simp; done)) rfl hp2 hn2 ((oldR hr2) w hs) (by first | omega | (simp; omega)) (fun hl => (show _ ∧ _ from apOld hs (rdBlk hr2 hl) (by simp)).2) (SH.lend hs)).mono (fun e w2 hx => ⟨(), hx.1, hx.2, trivial⟩)) ?_
  rintro ⟨⟩ -
  have hsl4 : (runM 0 ⟨([u, v, 0, 0, 0, 0, 0, 0] : List Int64), ([] : List Rec)⟩ l2).s.length = 0 := (runM_s _ _ _).trans (by first | rfl | (show _ = _; omega) | simp)
  refine s_y (v := .tuple #[.agg #[.int .i64 (((runM 0 ⟨([u, v, 0, 0, 0, 0, 0, 0] : List Int64), ([] : List Rec)⟩ l2).r.getD 0 0).toInt), .int .i64 (((runM 0 ⟨([u, v, 0, 0, 0, 0, 0, 0] : List Int64), ([] : List Rec)⟩ l2).r.getD 1 0).toInt), .int .i64 (((runM 0 ⟨([u, v, 0, 0, 0, 0, 0, 0] : List Int64), ([] : List Rec)⟩ l2).r.getD 2 0).toInt), .int .i64 (((runM 0 ⟨([u, v, 0, 0, 0, 0, 0, 0] : List Int64), ([] : List Rec)⟩ l2).r.getD 3 0).toInt), .int .i64 (((runM 0 ⟨([u, v, 0, 0, 0, 0, 0, 0] : List Int64), ([] : List Rec)⟩ l2).r.getD 4 0).toInt), .int .i64 (((runM 0 ⟨([u, v, 0, 0, 0, 0, 0, 0] : List Int64), ([] : List Rec)⟩ l2).r.getD 5 0).toInt), .int .i64 (((runM 0 ⟨([u, v, 0, 0, 0, 0, 0, 0] : List Int64), ([] : List Rec)⟩ l2).r.getD 6 0).toInt), .int .i64 (((runM 0 ⟨([u, v, 0, 0, 0, 0, 0, 0] : List Int64), ([] : List Rec)⟩ l2).r.getD 7 0).toInt)], .slice none 0 0]) (y_move rfl) rfl ?_
  refine s_y (v := .agg #[.int .i64 (((runM 0 ⟨([u, v, 0, 0, 0, 0, 0, 0] : List Int64), ([] : List Rec)⟩ l2).r.getD 0 0).toInt), .int .i64 (((runM 0 ⟨([u, v, 0, 0, 0, 0, 0, 0] : List Int64), ([] : List Rec)⟩ l2).r.getD 1 0).toInt), .int .i64 (((runM 0 ⟨([u, v, 0, 0, 0, 0, 0, 0] : List Int64), ([] : List Rec)⟩ l2).r.getD 2 0).toInt), .int .i64 (((runM 0 ⟨([u, v, 0, 0, 0, 0, 0, 0] : List Int64), ([] : List Rec)⟩ l2).r.getD 3 0).toInt), .int .i64 (((runM 0 ⟨([u, v, 0, 0, 0, 0, 0, 0] : List Int64), ([] : List Rec)⟩ l2).r.getD 4 0).toInt), .int .i64 (((runM 0 ⟨([u, v, 0, 0, 0, 0, 0, 0] : List Int64), ([] : List Rec)⟩ l2).r.getD 5 0).toInt), .int .i64 (((runM 0 ⟨([u, v, 0, 0, 0, 0, 0, 0] : List Int64), ([] : List Rec)⟩ l2).r.getD 6 0).toInt), .int .i64 (((runM 0 ⟨([u, v, 0, 0, 0, 0, 0, 0] : List Int64), ([] : List Rec)⟩ l2).r.getD 7 0).toInt)]) (y_extract rfl rfl) rfl ?_
  refine s_y (v := .slice none 0 0) (y_extract rfl rfl) rfl ?_
  refine s_e rfl ?_
  refine e_alloc (l := [.int .i64 0, .int .i64 0, .int .i64 0, .int .i64 0, .int .i64 0, .int .i64 0, .int .i64 0, .int .i64 0]) Try.zeroValue199 rfl ?_
  intro b_5
  refine s_e0 ?_
  refine e_store (vs := [.int .i64 (((runM 0 ⟨([u, v, 0, 0, 0, 0, 0, 0] : List Int64), ([] : List Rec)⟩ l2).r.getD 0 0).toInt), .int .i64 (((runM 0 ⟨([u, v, 0, 0, 0, 0, 0, 0] : List Int64), ([] : List Rec)⟩ l2).r.getD 1 0).toInt), .int .i64 (((runM 0 ⟨([u, v, 0, 0, 0, 0, 0, 0] : List Int64), ([] : List Rec)⟩ l2).r.getD 2 0).toInt), .int .i64 (((runM 0 ⟨([u, v, 0, 0, 0, 0, 0, 0] : List Int64), ([] : List Rec)⟩ l2).r.getD 3 0).toInt), .int .i64 (((runM 0 ⟨([u, v, 0, 0, 0, 0, 0, 0] : List Int64), ([] : List Rec)⟩ l2).r.getD 4 0).toInt), .int .i64 (((runM 0 ⟨([u, v, 0, 0, 0, 0, 0, 0] : List Int64), ([] : List Rec)⟩ l2).r.getD 5 0).toInt), .int .i64 (((runM 0 ⟨([u, v, 0, 0, 0, 0, 0, 0] : List Int64), ([] : List Rec)⟩ l2).r.getD 6 0).toInt), .int .i64 (((runM 0 ⟨([u, v, 0, 0, 0, 0, 0, 0] : List Int64), ([] : List Rec)⟩ l2).r.getD 7 0).toInt)]) (l' := [.int .i64 (((runM 0 ⟨([u, v, 0, 0, 0, 0, 0, 0] : List Int64), ([] : List Rec)⟩ l2).r.getD 0 0).toInt), .int .i64 (((runM 0 ⟨([u, v, 0, 0, 0, 0, 0, 0] : List Int64), ([] : List Rec)⟩ l2).r.getD 1 0).toInt), .int .i64 (((runM 0 ⟨([u, v, 0, 0, 0, 0, 0, 0] : List Int64), ([] : List Rec)⟩ l2).r.getD 2 0).toInt), .int .i64 (((runM 0 ⟨([u, v, 0, 0, 0, 0, 0, 0] : List Int64), ([] : List Rec)⟩ l2).r.getD 3 0).toInt), .int .i64 (((runM 0 ⟨([u, v, 0, 0, 0, 0, 0, 0] : List Int64), ([] : List Rec)⟩ l2).r.getD 4 0).toInt), .int .i64 (((runM 0 ⟨([u, v, 0, 0, 0, 0, 0, 0] : List Int64), ([] : List Rec)⟩ l2).r.getD 5 0).toInt), .int .i64 (((runM 0 ⟨([u, v, 0, 0, 0, 0, 0, 0] : List Int64), ([] : List Rec)⟩ l2).r.getD 6 0).toInt), .int .i64 (((runM 0 ⟨([u, v, 0, 0, 0, 0, 0, 0] : List Int64), ([] : List Rec)⟩ l2).r.getD 7 0).toInt)]) rfl rfl rfl rfl Try.sizeOf199 .h (Nat.le_of_ble_eq_true rfl) rfl ?_
  refine s_y (v := .slice none 0 0) (y_assign rfl) rfl ?_
  refine wpL_nil ?_
  refine thenS_n ?_
  refine wpS_seq ?_
  refine wpS_region ?_
  refine s_y (v := .pointer (some ⟨b_5, 0, none⟩)) (y_idxA (o' := 0) rfl rfl Try.underlying199 Try.sizeOf2 (by decide) (by decide) (by decide)) rfl ?_
  refine s_y (v := .int .i64 (((runM 0 ⟨([u, v, 0, 0, 0, 0, 0, 0] : List Int64), ([] : List Rec)⟩ l2).r.getD 0 0).toInt)) (y_load1 rfl Try.isAgg2 (own1 .h rfl)) rfl ?_
  refine s_y (v := .int .i64 (((runM 0 ⟨([u, v, 0, 0, 0, 0, 0, 0] : List Int64), ([] : List Rec)⟩ l2).r.getD 0 0).toInt)) (y_assign rfl) rfl ?_
  refine wpL_nil ?_
  refine thenS_n ?_
  refine wpS_ret ?_
  refine fin1 (v := .int .i64 (((runM 0 ⟨([u, v, 0, 0, 0, 0, 0, 0] : List Int64), ([] : List Rec)⟩ l2).r.getD 0 0).toInt)) (.inr rfl) (.nil) Try.results179 rfl ?_
  exact fun w' hs => ⟨congrArg (fun z : Int64 => Ending.returned (.int .i64 z.toInt)) (by unfold doneC; rw [if_pos hok]; rfl), hs⟩
theorem gfinish_c (k : Int) (a1 a2 a3 : Option Addr) (n1 c1 n2 c2 n3 c3 : Nat) (l1 l2 l3 : List Opc) (u v : Int64) (w : World) (hn1 : l1.length = n1) (hr1 : Rds w a1 (l1.flatMap opcV)) (hb1 : n1 ≤ 1000000) (hn2 : l2.length = n2) (hr2 : Rds w a2 (l2.flatMap opcV)) (hb2 : n2 ≤ 1000000) (hn3 : l3.length = n3) (hr3 : Rds w a3 (l3.flatMap opcV)) (hb3 : n3 ≤ 1000000) : Pure Try.prog 180 #[.agg #[.int .i64 k, .slice a1 n1 c1, .slice a2 n2 c2, .slice a3 n3 c3], .int .i64 u.toInt, .int .i64 v.toInt] w (.int .i64 ((doneC (chkB k l1 l2 l3) l3 v u).toInt)) := by
 refine calls_S (n := 23) (σ0 := (upd (upd (upd fr0 0 (.agg #[.int .i64 k, .slice a1 n1 c1, .slice a2 n2 c2, .slice a3 n3 c3])) 1 (.int .i64 u.toInt)) 2 (.int .i64 v.toInt))) (D := []) (A := []) Try.func180 rfl Try.ntmps180 rfl (a3_fr _ _ _) (SH.start w) ?_
 refine wpS_seq ?_
 refine wpS_region ?_
 refine s_e rfl ?_
 refine e_box (v := .agg #[.int .i64 k, .slice a1 n1 c1, .slice a2 n2 c2, .slice a3 n3 c3]) (l := [.int .i64 k, .slice a1 n1 c1, .slice a2 n2 c2, .slice a3 n3 c3]) rfl rfl ?_
 intro b_1
 refine s_y (v := .int .i64 0) (y_assign rfl) rfl ?_
 refine wpL_nil ?_
 refine thenS_n ?_
 refine wpS_seq ?_
 refine wpS_seq ?_
 refine wpS_region ?_
 refine s_y (v := .agg #[.int .i64 k, .slice a1 n1 c1, .slice a2 n2 c2, .slice a3 n3 c3]) (y_loadN rfl Try.isAgg84 Try.sizeOf84 (ownN .h rfl)) rfl ?_
 refine s_y (v := .int .i64 (chk11 k l1 l2 l3)) (y_call (args := #[.agg #[.int .i64 k, .slice a1 n1 c1, .slice a2 n2 c2, .slice a3 n3 c3]]) Try.call93 (ev1 rfl) (fun w hs => rcheck_c k a1 a2 a3 n1 c1 n2 c2 n3 c3 l1 l2 l3 w hn1 ((oldR hr1) w hs) (by omega) hn2 ((oldR hr2) w hs) (by omega) hn3 ((oldR hr3) w hs) (by omega))) rfl ?_
 refine s_y (v := .bool (decide ((chk11 k l1 l2 l3 : Int) ≠ 0))) (y_neq (a := chk11 k l1 l2 l3) (b := 0) rfl rfl rfl) rfl ?_
 refine wpL_nil ?_
 refine thenS_n ?_
 refine wpS_cond (t := decide ((chk11 k l1 l2 l3 : Int) ≠ 0)) rfl (fun b2 => ?_) (fun b2 => ?_)
 ·
  have p2 := of_decide_eq_true b2
  have hno : chkB k l1 l2 l3 = false := chk_no p2
  refine wpS_seq ?_
  refine wpS_region ?_
  refine s_y (v := .int .i64 0) (y_assign rfl) rfl ?_
  refine wpL_nil ?_
  refine thenS_n ?_
  refine wpS_ret ?_
  refine thenS_r ?_
  refine fin1 (v := .int .i64 0) (.inr rfl) (.nil) Try.results180 rfl ?_
  exact fun w' hs => ⟨congrArg (fun z : Int64 => Ending.returned (.int .i64 z.toInt)) (by unfold doneC; rw [if_neg (by rw [hno]; decide)] : (0 : Int64) = _), hs⟩
 ·
  have p2 := of_decide_eq_false b2
  have hok : chkB k l1 l2 l3 = true := chk_yes (Decidable.not_not.1 p2)
  obtain ⟨hk1, hk4, hp1, hp2, hp3⟩ := chk_bd hok
  refine wpS_skip ?_
  refine thenS_n ?_
  refine wpS_seq ?_
  refine wpS_region ?_
  refine s_y (v := .pointer (some ⟨b_1, 3, none⟩)) (y_fieldAddr (o' := 3) rfl Try.underlying84 rfl Try.sizeOf82 (by decide) rfl) rfl ?_
  refine s_y (v := .slice a3 n3 c3) (y_load1 rfl Try.isAgg82 (own1 .h rfl)) rfl ?_
  refine s_y (v := .int .i64 v.toInt) (y_move rfl) rfl ?_
  refine s_y (v := .int .i64 u.toInt) (y_move rfl) rfl ?_
  refine s_y (v := .agg #[.int .i64 v.toInt, .int .i64 u.toInt, .int .i64 0, .int .i64 0, .int .i64 0, .int .i64 0, .int .i64 0, .int .i64 0]) (y_buildL (m := [(0, .int .i64 v.toInt), (1, .int .i64 u.toInt)]) (vs := #[.int .i64 v.toInt, .int .i64 u.toInt, .int .i64 0, .int .i64 0, .int .i64 0, .int .i64 0, .int .i64 0, .int .i64 0]) (evc rfl (evc rfl evn)) (fun w => by kernel_rfl)) rfl ?_
  refine s_e rfl ?_
  refine OpE.ent (fun w hs => SH.nil0 (sz := 4) (t := 23) w hs) ?_
  refine e_call (f := 231) (args := #[.slice a3 n3 c3, .agg #[.int .i64 v.toInt, .int .i64 u.toInt, .int .i64 0, .int .i64 0, .int .i64 0, .int .i64 0, .int .i64 0, .int .i64 0], .slice none 0 0, .int .i64 0]) (X := Unit) (A := [osl none 0 0 4 23 (([] : List Rec).flatMap recV)]) (M := [cel b_1 84 [.int .i64 k, .slice a1 n1 c1, .slice a2 n2 c2, .slice a3 n3 c3]]) (V := fun _ => .tuple #[.agg #[.int .i64 (((runM 0 ⟨([v, u, 0, 0, 0, 0, 0, 0] : List Int64), ([] : List Rec)⟩ l3).r.getD 0 0).toInt), .int .i64 (((runM 0 ⟨([v, u, 0, 0, 0, 0, 0, 0] : List Int64), ([] : List Rec)⟩ l3).r.getD 1 0).toInt), .int .i64 (((runM 0 ⟨([v, u, 0, 0, 0, 0, 0, 0] : List Int64), ([] : List Rec)⟩ l3).r.getD 2 0).toInt), .int .i64 (((runM 0 ⟨([v, u, 0, 0, 0, 0, 0, 0] : List Int64), ([] : List Rec)⟩ l3).r.getD 3 0).toInt), .int .i64 (((runM 0 ⟨([v, u, 0, 0, 0, 0, 0, 0] : List Int64), ([] : List Rec)⟩ l3).r.getD 4 0).toInt), .int .i64 (((runM 0 ⟨([v, u, 0, 0, 0, 0, 0, 0] : List Int64), ([] : List Rec)⟩ l3).r.getD 5 0).toInt), .int .i64 (((runM 0 ⟨([v, u, 0, 0, 0, 0, 0, 0] : List Int64), ([] : List Rec)⟩ l3).r.getD 6 0).toInt), .int .i64 (((runM 0 ⟨([v, u, 0, 0, 0, 0, 0, 0] : List Int64), ([] : List Rec)⟩ l3).r.getD 7 0).toInt)], .slice none 0 0]) (A' := fun _ => [osl none 0 0 4 23 (((runM 0 ⟨([v, u, 0, 0, 0, 0, 0, 0] : List Int64), ([] : List Rec)⟩ l3).s).flatMap recV)]) (C := fun _ => True) Try.call231 (ev4 rfl rfl rfl rfl) (.p .h (.p .h .nil)) (fun w hs => (grun_c a3 n3 c3 l3 ([v, u, 0, 0, 0, 0, 0, 0] : List Int64) none 0 0 ([] : List Rec) 0 0 w rfl (by first | rfl | omega | (simp; done)) rfl hp3 hn3 ((oldR hr3) w hs) (by first | omega | (simp; omega)) (fun hl => (show _ ∧ _ from apOld hs (rdBlk hr3 hl) (by simp)).2) (SH.lend hs)).mono (fun e w2 hx => ⟨(), hx.1, hx.2, trivial⟩)) ?_
  rintro ⟨⟩ -
  have hsl4 : (runM 0 ⟨([v, u, 0, 0, 0, 0, 0, 0] : List Int64), ([] : List Rec)⟩ l3).s.length = 0 := (runM_s _ _ _).trans (by first | rfl | (show _ = _; omega) | simp)
  refine s_y (v := .tuple #[.agg #[.int .i64 (((runM 0 ⟨([v, u, 0, 0, 0, 0, 0, 0] : List Int64), ([] : List Rec)⟩ l3).r.getD 0 0).toInt), .int .i64 (((runM 0 ⟨([v, u, 0, 0, 0, 0, 0, 0] : List Int64), ([] : List Rec)⟩ l3).r.getD 1 0).toInt), .int .i64 (((runM 0 ⟨([v, u, 0, 0, 0, 0, 0, 0] : List Int64), ([] : List Rec)⟩ l3).r.getD 2 0).toInt), .int .i64 (((runM 0 ⟨([v, u, 0, 0, 0, 0, 0, 0] : List Int64), ([] : List Rec)⟩ l3).r.getD 3 0).toInt), .int .i64 (((runM 0 ⟨([v, u, 0, 0, 0, 0, 0, 0] : List Int64), ([] : List Rec)⟩ l3).r.getD 4 0).toInt), .int .i64 (((runM 0 ⟨([v, u, 0, 0, 0, 0, 0, 0] : List Int64), ([] : List Rec)⟩ l3).r.getD 5 0).toInt), .int .i64 (((runM 0 ⟨([v, u, 0, 0, 0, 0, 0, 0] : List Int64), ([] : List Rec)⟩ l3).r.getD 6 0).toInt), .int .i64 (((runM 0 ⟨([v, u, 0, 0, 0, 0, 0, 0] : List Int64), ([] : List Rec)⟩ l3).r.getD 7 0).toInt)], .slice none 0 0]) (y_move rfl) rfl ?_
  refine s_y (v := .agg #[.int .i64 (((runM 0 ⟨([v, u, 0, 0, 0, 0, 0, 0] : List Int64), ([] : List Rec)⟩ l3).r.getD 0 0).toInt), .int .i64 (((runM 0 ⟨([v, u, 0, 0, 0, 0, 0, 0] : List Int64), ([] : List Rec)⟩ l3).r.getD 1 0).toInt), .int .i64 (((runM 0 ⟨([v, u, 0, 0, 0, 0, 0, 0] : List Int64), ([] : List Rec)⟩ l3).r.getD 2 0).toInt), .int .i64 (((runM 0 ⟨([v, u, 0, 0, 0, 0, 0, 0] : List Int64), ([] : List Rec)⟩ l3).r.getD 3 0).toInt), .int .i64 (((runM 0 ⟨([v, u, 0, 0, 0, 0, 0, 0] : List Int64), ([] : List Rec)⟩ l3).r.getD 4 0).toInt), .int .i64 (((runM 0 ⟨([v, u, 0, 0, 0, 0, 0, 0] : List Int64), ([] : List Rec)⟩ l3).r.getD 5 0).toInt), .int .i64 (((runM 0 ⟨([v, u, 0, 0, 0, 0, 0, 0] : List Int64), ([] : List Rec)⟩ l3).r.getD 6 0).toInt), .int .i64 (((runM 0 ⟨([v, u, 0, 0, 0, 0, 0, 0] : List Int64), ([] : List Rec)⟩ l3).r.getD 7 0).toInt)]) (y_extract rfl rfl) rfl ?_
  refine s_y (v := .slice none 0 0) (y_extract rfl rfl) rfl ?_
  refine s_e rfl ?_
  refine e_alloc (l := [.int .i64 0, .int .i64 0, .int .i64 0, .int .i64 0, .int .i64 0, .int .i64 0, .int .i64 0, .int .i64 0]) Try.zeroValue199 rfl ?_
  intro b_5
  refine s_e0 ?_
  refine e_store (vs := [.int .i64 (((runM 0 ⟨([v, u, 0, 0, 0, 0, 0, 0] : List Int64), ([] : List Rec)⟩ l3).r.getD 0 0).toInt), .int .i64 (((runM 0 ⟨([v, u, 0, 0, 0, 0, 0, 0] : List Int64), ([] : List Rec)⟩ l3).r.getD 1 0).toInt), .int .i64 (((runM 0 ⟨([v, u, 0, 0, 0, 0, 0, 0] : List Int64), ([] : List Rec)⟩ l3).r.getD 2 0).toInt), .int .i64 (((runM 0 ⟨([v, u, 0, 0, 0, 0, 0, 0] : List Int64), ([] : List Rec)⟩ l3).r.getD 3 0).toInt), .int .i64 (((runM 0 ⟨([v, u, 0, 0, 0, 0, 0, 0] : List Int64), ([] : List Rec)⟩ l3).r.getD 4 0).toInt), .int .i64 (((runM 0 ⟨([v, u, 0, 0, 0, 0, 0, 0] : List Int64), ([] : List Rec)⟩ l3).r.getD 5 0).toInt), .int .i64 (((runM 0 ⟨([v, u, 0, 0, 0, 0, 0, 0] : List Int64), ([] : List Rec)⟩ l3).r.getD 6 0).toInt), .int .i64 (((runM 0 ⟨([v, u, 0, 0, 0, 0, 0, 0] : List Int64), ([] : List Rec)⟩ l3).r.getD 7 0).toInt)]) (l' := [.int .i64 (((runM 0 ⟨([v, u, 0, 0, 0, 0, 0, 0] : List Int64), ([] : List Rec)⟩ l3).r.getD 0 0).toInt), .int .i64 (((runM 0 ⟨([v, u, 0, 0, 0, 0, 0, 0] : List Int64), ([] : List Rec)⟩ l3).r.getD 1 0).toInt), .int .i64 (((runM 0 ⟨([v, u, 0, 0, 0, 0, 0, 0] : List Int64), ([] : List Rec)⟩ l3).r.getD 2 0).toInt), .int .i64 (((runM 0 ⟨([v, u, 0, 0, 0, 0, 0, 0] : List Int64), ([] : List Rec)⟩ l3).r.getD 3 0).toInt), .int .i64 (((runM 0 ⟨([v, u, 0, 0, 0, 0, 0, 0] : List Int64), ([] : List Rec)⟩ l3).r.getD 4 0).toInt), .int .i64 (((runM 0 ⟨([v, u, 0, 0, 0, 0, 0, 0] : List Int64), ([] : List Rec)⟩ l3).r.getD 5 0).toInt), .int .i64 (((runM 0 ⟨([v, u, 0, 0, 0, 0, 0, 0] : List Int64), ([] : List Rec)⟩ l3).r.getD 6 0).toInt), .int .i64 (((runM 0 ⟨([v, u, 0, 0, 0, 0, 0, 0] : List Int64), ([] : List Rec)⟩ l3).r.getD 7 0).toInt)]) rfl rfl rfl rfl Try.sizeOf199 .h (Nat.le_of_ble_eq_true rfl) rfl ?_
  refine s_y (v := .slice none 0 0) (y_assign rfl) rfl ?_
  refine wpL_nil ?_
  refine thenS_n ?_
  refine wpS_seq ?_
  refine wpS_region ?_
  refine s_y (v := .pointer (some ⟨b_5, 0, none⟩)) (y_idxA (o' := 0) rfl rfl Try.underlying199 Try.sizeOf2 (by decide) (by decide) (by decide)) rfl ?_
  refine s_y (v := .int .i64 (((runM 0 ⟨([v, u, 0, 0, 0, 0, 0, 0] : List Int64), ([] : List Rec)⟩ l3).r.getD 0 0).toInt)) (y_load1 rfl Try.isAgg2 (own1 .h rfl)) rfl ?_
  refine s_y (v := .int .i64 (((runM 0 ⟨([v, u, 0, 0, 0, 0, 0, 0] : List Int64), ([] : List Rec)⟩ l3).r.getD 0 0).toInt)) (y_assign rfl) rfl ?_
  refine wpL_nil ?_
  refine thenS_n ?_
  refine wpS_ret ?_
  refine fin1 (v := .int .i64 (((runM 0 ⟨([v, u, 0, 0, 0, 0, 0, 0] : List Int64), ([] : List Rec)⟩ l3).r.getD 0 0).toInt)) (.inr rfl) (.nil) Try.results180 rfl ?_
  exact fun w' hs => ⟨congrArg (fun z : Int64 => Ending.returned (.int .i64 z.toInt)) (by unfold doneC; rw [if_pos hok]; rfl), hs⟩
theorem gmap_c (k : Int) (a1 a2 a3 : Option Addr) (n1 c1 n2 c2 n3 c3 : Nat) (l1 l2 l3 : List Opc) (nn u v : Int64) (w : World) (hn1 : l1.length = n1) (hr1 : Rds w a1 (l1.flatMap opcV)) (hb1 : n1 ≤ 1000000) (hn2 : l2.length = n2) (hr2 : Rds w a2 (l2.flatMap opcV)) (hb2 : n2 ≤ 1000000) (hn3 : l3.length = n3) (hr3 : Rds w a3 (l3.flatMap opcV)) (hb3 : n3 ≤ 1000000) : MakesS Try.prog 213 #[.agg #[.int .i64 k, .slice a1 n1 c1, .slice a2 n2 c2, .slice a3 n3 c3], .int .i64 nn.toInt, .agg #[.int .i64 u.toInt, .int .i64 v.toInt]] w [] recV 4 23 (mapC (chkB k l1 l2 l3) k l1 nn u v) := by
 refine calls_S (n := 40) (σ0 := (upd (upd (upd fr0 0 (.agg #[.int .i64 k, .slice a1 n1 c1, .slice a2 n2 c2, .slice a3 n3 c3])) 1 (.int .i64 nn.toInt)) 2 (.agg #[.int .i64 u.toInt, .int .i64 v.toInt]))) (D := []) (A := []) Try.func213 rfl Try.ntmps213 rfl (a3_fr _ _ _) (SH.start w) ?_
 refine wpS_seq ?_
 refine wpS_region ?_
 refine s_e rfl ?_
 refine e_box (v := .agg #[.int .i64 k, .slice a1 n1 c1, .slice a2 n2 c2, .slice a3 n3 c3]) (l := [.int .i64 k, .slice a1 n1 c1, .slice a2 n2 c2, .slice a3 n3 c3]) rfl rfl ?_
 intro b_1
 refine s_e rfl ?_
 refine e_box (v := .agg #[.int .i64 u.toInt, .int .i64 v.toInt]) (l := [.int .i64 u.toInt, .int .i64 v.toInt]) rfl rfl ?_
 intro b_2
 refine s_y (v := .slice none 0 0) (y_assign rfl) rfl ?_
 refine wpL_nil ?_
 refine thenS_n ?_
 refine wpS_seq ?_
 refine wpS_seq ?_
 refine wpS_region ?_
 refine s_y (v := .agg #[.int .i64 k, .slice a1 n1 c1, .slice a2 n2 c2, .slice a3 n3 c3]) (y_loadN rfl Try.isAgg84 Try.sizeOf84 (ownN (.t .h) rfl)) rfl ?_
 refine s_y (v := .int .i64 (chk11 k l1 l2 l3)) (y_call (args := #[.agg #[.int .i64 k, .slice a1 n1 c1, .slice a2 n2 c2, .slice a3 n3 c3]]) Try.call93 (ev1 rfl) (fun w hs => rcheck_c k a1 a2 a3 n1 c1 n2 c2 n3 c3 l1 l2 l3 w hn1 ((oldR hr1) w hs) (by omega) hn2 ((oldR hr2) w hs) (by omega) hn3 ((oldR hr3) w hs) (by omega))) rfl ?_
 refine s_y (v := .bool (decide ((chk11 k l1 l2 l3 : Int) ≠ 0))) (y_neq (a := chk11 k l1 l2 l3) (b := 0) rfl rfl rfl) rfl ?_
 refine wpL_nil ?_
 refine thenS_n ?_
 refine wpS_cond (t := decide ((chk11 k l1 l2 l3 : Int) ≠ 0)) rfl (fun b3 => ?_) (fun b3 => ?_)
 ·
  have p3 := of_decide_eq_true b3
  have hno : chkB k l1 l2 l3 = false := chk_no p3
  refine wpS_seq ?_
  refine wpS_region ?_
  refine s_y (v := .slice none 0 0) (y_assign rfl) rfl ?_
  refine wpL_nil ?_
  refine thenS_n ?_
  refine wpS_ret ?_
  refine thenS_r ?_
  refine finNil (.inr rfl) .nil Try.results213 rfl (sz := 4) (ty := 23) ?_
  exact fun w' hs => ⟨(none, 0), by rw [show (mapC (chkB k l1 l2 l3) k l1 nn u v) = [] from (by unfold mapC; rw [if_neg (by rw [hno]; decide)])]; rfl, by rw [show (mapC (chkB k l1 l2 l3) k l1 nn u v) = [] from (by unfold mapC; rw [if_neg (by rw [hno]; decide)])]; exact hs, trivial⟩
 ·
  have p3 := of_decide_eq_false b3
  have hok : chkB k l1 l2 l3 = true := chk_yes (Decidable.not_not.1 p3)
  obtain ⟨hk1, hk4, hp1, hp2, hp3⟩ := chk_bd hok
  refine wpS_skip ?_
  refine thenS_n ?_
  refine wpS_seq ?_
  refine wpS_region ?_
  refine s_y (v := .slice none 0 0) (y_assign rfl) rfl ?_
  refine wpL_nil ?_
  refine thenS_n ?_
  refine wpS_seq ?_
  refine wpS_seq ?_
  refine wpS_region ?_
  refine s_y (v := .int .i64 0) (y_assign rfl) rfl ?_
  refine wpL_nil ?_
  refine thenS_n ?_
  refine wpS_block ?_
  refine wpS_nil0 4 23 ?_
  refine wpS_loop (fun mez ds σ L => ∃ j : Nat, ∃ b1 : Option Addr, ∃ d1 : Nat, mez = k.toNat - j ∧ (j ≤ k.toNat) ∧ ds = [] ∧ σ 1 = .int .i64 nn.toInt ∧ σ 3 = .pointer (some ⟨b_1, 0, none⟩) ∧ σ 5 = .pointer (some ⟨b_2, 0, none⟩) ∧ σ 7 = .slice b1 ((List.replicate j deadR).length) d1 ∧ σ 8 = .int .i64 ((j : Nat) : Int) ∧ Ent L [osl b1 d1 ((List.replicate j deadR).length) 4 23 ((List.replicate j deadR).flatMap recV), cel b_2 89 [.int .i64 u.toInt, .int .i64 v.toInt], cel b_1 84 [.int .i64 k, .slice a1 n1 c1, .slice a2 n2 c2, .slice a3 n3 c3]]) (m0 := k.toNat - 0) ⟨0, none, 0, rfl, by omega, rfl, rfl, rfl, rfl, rfl, rfl, .p .h (.p .h (.p .h .nil))⟩ ?_
  rintro mez ds σ L ⟨j, b1, d1, hm_4, hf0_4, rfl, h1_4, h3_4, h5_4, h7_4, h8_4, hE_4⟩
  refine wpS_ent hE_4 ?_; clear hE_4
  refine wpS_seq ?_
  refine wpS_seq ?_
  refine wpS_region ?_
  refine s_y (v := .int .i64 ((j : Nat) : Int)) (y_move h8_4) rfl ?_
  refine s_y (v := .pointer (some ⟨b_1, 0, none⟩)) (y_fieldAddr (o' := 0) h3_4 Try.underlying84 rfl Try.sizeOf3 (by decide) rfl) rfl ?_
  refine s_y (v := .int .i64 k) (y_load1 rfl Try.isAgg3 (own1 (.t (.t .h)) rfl)) rfl ?_
  refine s_y (v := .bool (decide ((((j : Nat) : Int) : Int) < k))) (y_lss (a := ((j : Nat) : Int)) (b := k) rfl rfl rfl) rfl ?_
  refine wpL_nil ?_
  refine thenS_n ?_
  refine wpS_cond (t := decide ((((j : Nat) : Int) : Int) < k)) rfl (fun b5 => ?_) (fun b5 => ?_)
  ·
   have p5 := of_decide_eq_true b5
   refine wpS_skip ?_
   refine thenS_n ?_
   refine wpS_seq ?_
   refine wpS_block ?_
   refine wpS_region ?_
   refine s_y (v := .slice b1 ((List.replicate j deadR).length) d1) (y_move h7_4) rfl ?_
   refine s_y (v := .agg #[.bool deadR.dead, .int .i64 deadR.key.toInt, .int .i64 deadR.value.toInt, .int .i64 deadR.seq.toInt]) (y_call (args := #[]) Try.call178 ev0 (fun w hs => refdead_c w)) rfl ?_
   refine s_e rfl ?_
   refine e_bsliceL (e := 23) (m := [(0, .agg #[.bool deadR.dead, .int .i64 deadR.key.toInt, .int .i64 deadR.value.toInt, .int .i64 deadR.seq.toInt])]) (l := [.bool deadR.dead, .int .i64 deadR.key.toInt, .int .i64 deadR.value.toInt, .int .i64 deadR.seq.toInt]) (evc rfl evn) (fun w => by kernel_rfl) ?_
   intro b_6
   refine s_e rfl ?_
   refine e_appendL (enc := recV) (xs := ((List.replicate j deadR) : List Rec)) (ns := ([deadR] : List Rec)) (zs := (List.replicate (j + 1) deadR)) (bytes := 32) recV_len recV_one Try.underlying69 (i := Try.t23) rfl rfl rfl rfl rfl (by decide) rfl rfl (by first | rfl | omega) (by first | rfl | omega) (.t .h) (fun w hs => celR .h w hs) List.replicate_succ'.symm (by rw [List.length_replicate]; omega) (by rw [List.length_replicate]; omega) ?_
   intro a_7 c_8
   refine s_y (v := .slice a_7 ((List.replicate (j + 1) deadR).length) c_8) (y_assign rfl) rfl ?_
   refine wpL_nil ?_
   refine blockS_n ?_
   refine thenS_n ?_
   refine wpS_region ?_
   refine s_y (v := .int .i64 ((j : Nat) : Int)) (y_move h8_4) rfl ?_
   refine s_y (v := .int .i64 (((j + 1) : Nat) : Int)) (y_add (a := ((j : Nat) : Int)) (b := 1) rfl rfl (wI (by omega) (by omega) (by omega))) rfl ?_
   refine s_y (v := .int .i64 (((j + 1) : Nat) : Int)) (y_assign rfl) rfl ?_
   refine wpL_nil ?_
   refine thenS_n ?_
   exact ⟨_, by omega, ⟨(j + 1), a_7, c_8, rfl, by omega, rfl, h1_4, h3_4, h5_4, rfl, rfl, .p .h (.p (.t .h) (.p (.t .h) .nil))⟩⟩
  ·
   have p5 := of_decide_eq_false b5
   refine wpS_exit ?_
   refine thenS_x ?_
   refine thenS_x ?_
   refine blockS_h ?_
   refine thenS_n ?_
   refine wpS_seq ?_
   refine wpS_region ?_
   refine s_y (v := .pointer (some ⟨b_1, 1, none⟩)) (y_fieldAddr (o' := 1) h3_4 Try.underlying84 rfl Try.sizeOf82 (by decide) rfl) rfl ?_
   refine s_y (v := .slice a1 n1 c1) (y_load1 rfl Try.isAgg82 (own1 (.t (.t .h)) rfl)) rfl ?_
   refine s_y (v := .pointer (some ⟨b_2, 0, none⟩)) (y_fieldAddr (o' := 0) h5_4 Try.underlying89 rfl Try.sizeOf2 (by decide) rfl) rfl ?_
   refine s_y (v := .int .i64 u.toInt) (y_load1 rfl Try.isAgg2 (own1 (.t .h) rfl)) rfl ?_
   refine s_y (v := .pointer (some ⟨b_2, 1, none⟩)) (y_fieldAddr (o' := 1) h5_4 Try.underlying89 rfl Try.sizeOf2 (by decide) rfl) rfl ?_
   refine s_y (v := .int .i64 v.toInt) (y_load1 rfl Try.isAgg2 (own1 (.t .h) rfl)) rfl ?_
   refine s_y (v := .int .i64 nn.toInt) (y_move h1_4) rfl ?_
   refine s_y (v := .agg #[.int .i64 u.toInt, .int .i64 v.toInt, .int .i64 nn.toInt, .int .i64 0, .int .i64 0, .int .i64 0, .int .i64 0, .int .i64 0]) (y_buildL (m := [(0, .int .i64 u.toInt), (1, .int .i64 v.toInt), (2, .int .i64 nn.toInt)]) (vs := #[.int .i64 u.toInt, .int .i64 v.toInt, .int .i64 nn.toInt, .int .i64 0, .int .i64 0, .int .i64 0, .int .i64 0, .int .i64 0]) (evc rfl (evc rfl (evc rfl evn))) (fun w => by kernel_rfl)) rfl ?_
   refine s_y (v := .slice b1 ((List.replicate j deadR).length) d1) (y_move h7_4) rfl ?_
   refine s_y (v := .int .i64 nn.toInt) (y_move h1_4) rfl ?_
   refine s_y (v := .pointer (some ⟨b_1, 0, none⟩)) (y_fieldAddr (o' := 0) h3_4 Try.underlying84 rfl Try.sizeOf3 (by decide) rfl) rfl ?_
   refine s_y (v := .int .i64 k) (y_load1 rfl Try.isAgg3 (own1 (.t (.t .h)) rfl)) rfl ?_
   refine s_y (v := .int .i64 ((nn * Int64.ofInt k).toInt)) (y_mul (a := nn.toInt) (b := k) rfl rfl (i_mulZ (by omega) (by omega))) rfl ?_
   refine s_e rfl ?_
   refine e_call (f := 231) (args := #[.slice a1 n1 c1, .agg #[.int .i64 u.toInt, .int .i64 v.toInt, .int .i64 nn.toInt, .int .i64 0, .int .i64 0, .int .i64 0, .int .i64 0, .int .i64 0], .slice b1 ((List.replicate j deadR).length) d1, .int .i64 ((nn * Int64.ofInt k).toInt)]) (X := Unit) (A := [osl b1 d1 ((List.replicate j deadR).length) 4 23 ((List.replicate j deadR).flatMap recV)]) (M := [cel b_2 89 [.int .i64 u.toInt, .int .i64 v.toInt], cel b_1 84 [.int .i64 k, .slice a1 n1 c1, .slice a2 n2 c2, .slice a3 n3 c3]]) (V := fun _ => .tuple #[.agg #[.int .i64 (((runM (nn * Int64.ofInt k) ⟨([u, v, nn, 0, 0, 0, 0, 0] : List Int64), (List.replicate j deadR)⟩ l1).r.getD 0 0).toInt), .int .i64 (((runM (nn * Int64.ofInt k) ⟨([u, v, nn, 0, 0, 0, 0, 0] : List Int64), (List.replicate j deadR)⟩ l1).r.getD 1 0).toInt), .int .i64 (((runM (nn * Int64.ofInt k) ⟨([u, v, nn, 0, 0, 0, 0, 0] : List Int64), (List.replicate j deadR)⟩ l1).r.getD 2 0).toInt), .int .i64 (((runM (nn * Int64.ofInt k) ⟨([u, v, nn, 0, 0, 0, 0, 0] : List Int64), (List.replicate j deadR)⟩ l1).r.getD 3 0).toInt), .int .i64 (((runM (nn * Int64.ofInt k) ⟨([u, v, nn, 0, 0, 0, 0, 0] : List Int64), (List.replicate j deadR)⟩ l1).r.getD 4 0).toInt), .int .i64 (((runM (nn * Int64.ofInt k) ⟨([u, v, nn, 0, 0, 0, 0, 0] : List Int64), (List.replicate j deadR)⟩ l1).r.getD 5 0).toInt), .int .i64 (((runM (nn * Int64.ofInt k) ⟨([u, v, nn, 0, 0, 0, 0, 0] : List Int64), (List.replicate j deadR)⟩ l1).r.getD 6 0).toInt), .int .i64 (((runM (nn * Int64.ofInt k) ⟨([u, v, nn, 0, 0, 0, 0, 0] : List Int64), (List.replicate j deadR)⟩ l1).r.getD 7 0).toInt)], .slice b1 ((List.replicate j deadR).length) d1]) (A' := fun _ => [osl b1 d1 ((List.replicate j deadR).length) 4 23 (((runM (nn * Int64.ofInt k) ⟨([u, v, nn, 0, 0, 0, 0, 0] : List Int64), (List.replicate j deadR)⟩ l1).s).flatMap recV)]) (C := fun _ => True) Try.call231 (ev4 rfl rfl rfl rfl) (.p .h (.p .h (.p .h .nil))) (fun w hs => (grun_c a1 n1 c1 l1 ([u, v, nn, 0, 0, 0, 0, 0] : List Int64) b1 ((List.replicate j deadR).length) d1 (List.replicate j deadR) (nn * Int64.ofInt k) k w rfl (by first | rfl | omega | (simp; done)) (by rw [List.length_replicate]; omega) hp1 hn1 ((oldR hr1) w hs) (by first | omega | (simp; omega)) (fun hl => (show _ ∧ _ from apOld hs (rdBlk hr1 hl) (by simp)).2) (SH.lend hs)).mono (fun e w2 hx => ⟨(), hx.1, hx.2, trivial⟩)) ?_
   rintro ⟨⟩ -
   have hsl9 : (runM (nn * Int64.ofInt k) ⟨([u, v, nn, 0, 0, 0, 0, 0] : List Int64), (List.replicate j deadR)⟩ l1).s.length = (List.replicate j deadR).length := (runM_s _ _ _).trans (by first | rfl | (show _ = _; omega) | simp)
   refine s_y (v := .tuple #[.agg #[.int .i64 (((runM (nn * Int64.ofInt k) ⟨([u, v, nn, 0, 0, 0, 0, 0] : List Int64), (List.replicate j deadR)⟩ l1).r.getD 0 0).toInt), .int .i64 (((runM (nn * Int64.ofInt k) ⟨([u, v, nn, 0, 0, 0, 0, 0] : List Int64), (List.replicate j deadR)⟩ l1).r.getD 1 0).toInt), .int .i64 (((runM (nn * Int64.ofInt k) ⟨([u, v, nn, 0, 0, 0, 0, 0] : List Int64), (List.replicate j deadR)⟩ l1).r.getD 2 0).toInt), .int .i64 (((runM (nn * Int64.ofInt k) ⟨([u, v, nn, 0, 0, 0, 0, 0] : List Int64), (List.replicate j deadR)⟩ l1).r.getD 3 0).toInt), .int .i64 (((runM (nn * Int64.ofInt k) ⟨([u, v, nn, 0, 0, 0, 0, 0] : List Int64), (List.replicate j deadR)⟩ l1).r.getD 4 0).toInt), .int .i64 (((runM (nn * Int64.ofInt k) ⟨([u, v, nn, 0, 0, 0, 0, 0] : List Int64), (List.replicate j deadR)⟩ l1).r.getD 5 0).toInt), .int .i64 (((runM (nn * Int64.ofInt k) ⟨([u, v, nn, 0, 0, 0, 0, 0] : List Int64), (List.replicate j deadR)⟩ l1).r.getD 6 0).toInt), .int .i64 (((runM (nn * Int64.ofInt k) ⟨([u, v, nn, 0, 0, 0, 0, 0] : List Int64), (List.replicate j deadR)⟩ l1).r.getD 7 0).toInt)], .slice b1 ((List.replicate j deadR).length) d1]) (y_move rfl) rfl ?_
   refine s_y (v := .agg #[.int .i64 (((runM (nn * Int64.ofInt k) ⟨([u, v, nn, 0, 0, 0, 0, 0] : List Int64), (List.replicate j deadR)⟩ l1).r.getD 0 0).toInt), .int .i64 (((runM (nn * Int64.ofInt k) ⟨([u, v, nn, 0, 0, 0, 0, 0] : List Int64), (List.replicate j deadR)⟩ l1).r.getD 1 0).toInt), .int .i64 (((runM (nn * Int64.ofInt k) ⟨([u, v, nn, 0, 0, 0, 0, 0] : List Int64), (List.replicate j deadR)⟩ l1).r.getD 2 0).toInt), .int .i64 (((runM (nn * Int64.ofInt k) ⟨([u, v, nn, 0, 0, 0, 0, 0] : List Int64), (List.replicate j deadR)⟩ l1).r.getD 3 0).toInt), .int .i64 (((runM (nn * Int64.ofInt k) ⟨([u, v, nn, 0, 0, 0, 0, 0] : List Int64), (List.replicate j deadR)⟩ l1).r.getD 4 0).toInt), .int .i64 (((runM (nn * Int64.ofInt k) ⟨([u, v, nn, 0, 0, 0, 0, 0] : List Int64), (List.replicate j deadR)⟩ l1).r.getD 5 0).toInt), .int .i64 (((runM (nn * Int64.ofInt k) ⟨([u, v, nn, 0, 0, 0, 0, 0] : List Int64), (List.replicate j deadR)⟩ l1).r.getD 6 0).toInt), .int .i64 (((runM (nn * Int64.ofInt k) ⟨([u, v, nn, 0, 0, 0, 0, 0] : List Int64), (List.replicate j deadR)⟩ l1).r.getD 7 0).toInt)]) (y_extract rfl rfl) rfl ?_
   refine s_y (v := .slice b1 ((List.replicate j deadR).length) d1) (y_extract rfl rfl) rfl ?_
   refine s_y (v := .slice b1 ((List.replicate j deadR).length) d1) (y_assign rfl) rfl ?_
   refine wpL_nil ?_
   refine thenS_n ?_
   refine wpS_seq ?_
   refine wpS_region ?_
   refine s_y (v := .slice b1 ((List.replicate j deadR).length) d1) (y_move rfl) rfl ?_
   refine s_y (v := .slice b1 ((List.replicate j deadR).length) d1) (y_assign rfl) rfl ?_
   refine wpL_nil ?_
   refine thenS_n ?_
   refine wpS_ret ?_
   refine fin1 (M := [osl b1 d1 ((List.replicate j deadR).length) 4 23 (((runM (nn * Int64.ofInt k) ⟨([u, v, nn, 0, 0, 0, 0, 0] : List Int64), (List.replicate j deadR)⟩ l1).s).flatMap recV)]) (v := .slice b1 ((List.replicate j deadR).length) d1) (.inr rfl) (.p .h .nil) Try.results213 rfl ?_
   exact fun w' hs => ⟨(b1, d1), by rw [show (mapC (chkB k l1 l2 l3) k l1 nn u v) = (runM (nn * Int64.ofInt k) ⟨([u, v, nn, 0, 0, 0, 0, 0] : List Int64), (List.replicate j deadR)⟩ l1).s from (by unfold mapC mapP; rw [if_pos hok, show j = k.toNat by omega]; rfl)]; simp only [slV, show ((runM (nn * Int64.ofInt k) ⟨([u, v, nn, 0, 0, 0, 0, 0] : List Int64), (List.replicate j deadR)⟩ l1).s).length = (List.replicate j deadR).length from by omega], by rw [show (mapC (chkB k l1 l2 l3) k l1 nn u v) = (runM (nn * Int64.ofInt k) ⟨([u, v, nn, 0, 0, 0, 0, 0] : List Int64), (List.replicate j deadR)⟩ l1).s from (by unfold mapC mapP; rw [if_pos hok, show j = k.toNat by omega]; rfl)]; simp only [slR, show ((runM (nn * Int64.ofInt k) ⟨([u, v, nn, 0, 0, 0, 0, 0] : List Int64), (List.replicate j deadR)⟩ l1).s).length = (List.replicate j deadR).length from by omega]; exact hs, trivial⟩
theorem rrightJ_c {R m S : Nat} {W : Int} {nb K : Nat} (h : JP R m S W nb K) (w : World) : Pure Try.prog 101 #[.agg #[.int .i64 (((R : Nat) : Int)), .int .i64 (((m : Nat) : Int)), .int .i64 (((S : Nat) : Int)), .int .i64 (W)]] w (.int .i64 0) := by
  have h1 := rright_c ⟨R, m, S, W⟩ w
  have h2 : bad ⟨R, m, S, W⟩ = 0 := by unfold bad; rw [if_pos h.ok]
  rw [h2] at h1
  exact h1
theorem pr_fit {l : List Pr} {i : Nat} {v : Value} (h : i < l.length) : i * 2 + 1 + [v].length ≤ (l.flatMap prV).length := by
  rw [fl_len prV_len]
  simp only [List.length_singleton]
  omega
theorem pr_set {l : List Pr} {i : Nat} (h : i < l.length) (d : Pr) (v : Int64) : (l.flatMap prV).take (i * 2 + 1) ++ [.int .i64 v.toInt] ++ (l.flatMap prV).drop (i * 2 + 1 + [Value.int .i64 v.toInt].length) = (l.set i (((l.getD i d).1, v) : Pr)).flatMap prV := by
  have e : l = l.take i ++ l[i] :: l.drop (i + 1) := by rw [← List.drop_eq_getElem_cons h, List.take_append_drop]
  have hl : ((l.take i).flatMap prV).length = i * 2 := by rw [fl_len prV_len, List.length_take]; omega
  have e1 : l.flatMap prV = (l.take i).flatMap prV ++ (prV l[i] ++ (l.drop (i + 1)).flatMap prV) := by
    conv => lhs; rw [e]
    rw [List.flatMap_append, List.flatMap_cons]
  have e2 : (l.set i (((l.getD i d).1, v) : Pr)).flatMap prV = (l.take i).flatMap prV ++ (prV (((l.getD i d).1, v) : Pr) ++ (l.drop (i + 1)).flatMap prV) := by
    rw [List.set_eq_take_append_cons_drop, if_pos h, List.flatMap_append, List.flatMap_cons]
  have e3 : l.getD i d = l[i] := by rw [List.getD_eq_getElem?_getD, List.getElem?_eq_getElem h, Option.getD_some]
  have hA := List.take_of_length_le (i := i * 2 + 1) (l := (l.take i).flatMap prV) (by omega)
  have hB := List.drop_of_length_le (i := i * 2 + 2) (l := (l.take i).flatMap prV) (by omega)
  rw [show i * 2 + 1 + [Value.int .i64 v.toInt].length = i * 2 + 2 from rfl, e1, e2, e3, List.take_append, List.drop_append, hl, hA, hB, Nat.add_sub_cancel_left, Nat.add_sub_cancel_left]
  simp [prV]
theorem rmay_c (a1 a2 a3 : Option Addr) (n1 c1 n2 c2 n3 c3 : Nat) (l1 l2 l3 : List Opc) (R m S : Nat) (W : Int) (nb K : Nat) (ga : Option Addr) (gc : Nat) (li : List Pr) (w : World) (hj : JP R m S W nb K) (hn1 : l1.length = n1) (hr1 : Rds w a1 (l1.flatMap opcV)) (hb1 : n1 ≤ 1000000) (hn2 : l2.length = n2) (hr2 : Rds w a2 (l2.flatMap opcV)) (hb2 : n2 ≤ 1000000) (hn3 : l3.length = n3) (hr3 : Rds w a3 (l3.flatMap opcV)) (hb3 : n3 ≤ 1000000) (hck : (chkB ((m : Nat) : Int) l1 l2 l3) = true) (hl : li.length = R) : Pure Try.prog 212 #[.agg #[.int .i64 ((m : Nat) : Int), .slice a1 n1 c1, .slice a2 n2 c2, .slice a3 n3 c3], .agg #[.int .i64 ((R : Nat) : Int), .int .i64 ((m : Nat) : Int), .int .i64 ((S : Nat) : Int), .int .i64 W], .slice ga R gc] w (.int .i64 0) := by
 refine calls_S (n := 25) (σ0 := (upd (upd (upd fr0 0 (.agg #[.int .i64 ((m : Nat) : Int), .slice a1 n1 c1, .slice a2 n2 c2, .slice a3 n3 c3])) 1 (.agg #[.int .i64 ((R : Nat) : Int), .int .i64 ((m : Nat) : Int), .int .i64 ((S : Nat) : Int), .int .i64 W])) 2 (.slice ga R gc))) (D := []) (A := []) Try.func212 rfl Try.ntmps212 rfl (a3_fr _ _ _) (SH.start w) ?_
 refine wpS_seq ?_
 refine wpS_region ?_
 refine s_e rfl ?_
 refine e_box (v := .agg #[.int .i64 ((m : Nat) : Int), .slice a1 n1 c1, .slice a2 n2 c2, .slice a3 n3 c3]) (l := [.int .i64 ((m : Nat) : Int), .slice a1 n1 c1, .slice a2 n2 c2, .slice a3 n3 c3]) rfl rfl ?_
 intro b_1
 refine s_e rfl ?_
 refine e_box (v := .agg #[.int .i64 ((R : Nat) : Int), .int .i64 ((m : Nat) : Int), .int .i64 ((S : Nat) : Int), .int .i64 W]) (l := [.int .i64 ((R : Nat) : Int), .int .i64 ((m : Nat) : Int), .int .i64 ((S : Nat) : Int), .int .i64 W]) rfl rfl ?_
 intro b_2
 refine s_y (v := .int .i64 0) (y_assign rfl) rfl ?_
 refine wpL_nil ?_
 refine thenS_n ?_
 refine wpS_seq ?_
 refine wpS_seq ?_
 refine wpS_region ?_
 refine s_y (v := .agg #[.int .i64 ((R : Nat) : Int), .int .i64 ((m : Nat) : Int), .int .i64 ((S : Nat) : Int), .int .i64 W]) (y_loadN rfl Try.isAgg53 Try.sizeOf53 (ownN .h rfl)) rfl ?_
 refine s_y (v := .int .i64 0) (y_call (args := #[.agg #[.int .i64 ((R : Nat) : Int), .int .i64 ((m : Nat) : Int), .int .i64 ((S : Nat) : Int), .int .i64 W]]) Try.call101 (ev1 rfl) (fun w hs => rrightJ_c hj w)) rfl ?_
 refine s_y (v := .bool false) (y_neq (a := 0) (b := 0) (c := false) rfl rfl (by decide)) rfl ?_
 refine wpL_nil ?_
 refine thenS_n ?_
 refine wpS_cond_f rfl ?_
 refine wpS_skip ?_
 refine thenS_n ?_
 refine wpS_seq ?_
 refine wpS_seq ?_
 refine wpS_region ?_
 refine s_y (v := .agg #[.int .i64 ((m : Nat) : Int), .slice a1 n1 c1, .slice a2 n2 c2, .slice a3 n3 c3]) (y_loadN rfl Try.isAgg84 Try.sizeOf84 (ownN (.t .h) rfl)) rfl ?_
 refine s_y (v := .int .i64 0) (y_call (args := #[.agg #[.int .i64 ((m : Nat) : Int), .slice a1 n1 c1, .slice a2 n2 c2, .slice a3 n3 c3]]) Try.call93 (ev1 rfl) (fun w hs => by have h := rcheck_c ((m : Nat) : Int) a1 a2 a3 n1 c1 n2 c2 n3 c3 l1 l2 l3 w hn1 ((oldR hr1) w hs) (by omega) hn2 ((oldR hr2) w hs) (by omega) hn3 ((oldR hr3) w hs) (by omega); rw [chk_0 hck] at h; exact h)) rfl ?_
 refine s_y (v := .bool false) (y_neq (a := 0) (b := 0) (c := false) rfl rfl (by decide)) rfl ?_
 refine s_y (v := .bool false) (y_move rfl) rfl ?_
 refine s_gy (y_fieldAddr (o' := 0) rfl Try.underlying84 rfl Try.sizeOf3 (by decide) rfl) rfl rfl rfl rfl rfl rfl ?_
 refine s_gy (y_load1 rfl Try.isAgg3 (own1 (.t .h) rfl)) rfl rfl rfl rfl rfl rfl ?_
 refine s_gy (y_fieldAddr (o' := 1) rfl Try.underlying53 rfl Try.sizeOf3 (by decide) rfl) rfl rfl rfl rfl rfl rfl ?_
 refine s_gy (y_load1 rfl Try.isAgg3 (own1 .h rfl)) rfl rfl rfl rfl rfl rfl ?_
 refine s_gy (y_neq (a := ((m : Nat) : Int)) (b := ((m : Nat) : Int)) (c := decide (m ≠ m)) rfl rfl (decide_eq_decide.2 (by omega))) rfl rfl rfl rfl rfl rfl ?_
 refine s_y (v := .bool (decide (m ≠ m))) (y_pickF rfl rfl rfl) rfl ?_
 refine wpL_nil ?_
 refine thenS_n ?_
 refine wpS_cond_F (t := decide (m ≠ m)) rfl (decide_eq_false (by omega)) ?_
 refine wpS_skip ?_
 refine thenS_n ?_
 refine wpS_seq ?_
 refine wpS_seq ?_
 refine wpS_region ?_
 refine s_y (v := .slice ga R gc) (y_move rfl) rfl ?_
 refine s_y (v := .int .i64 ((R : Nat) : Int)) (y_len (ty' := 0) (at_ := #[]) rfl Try.underlying153) rfl ?_
 refine s_y (v := .pointer (some ⟨b_2, 0, none⟩)) (y_fieldAddr (o' := 0) rfl Try.underlying53 rfl Try.sizeOf3 (by decide) rfl) rfl ?_
 refine s_y (v := .int .i64 ((R : Nat) : Int)) (y_load1 rfl Try.isAgg3 (own1 .h rfl)) rfl ?_
 refine s_y (v := .bool (decide (R ≠ R))) (y_neq (a := ((R : Nat) : Int)) (b := ((R : Nat) : Int)) (c := decide (R ≠ R)) rfl rfl (decide_eq_decide.2 (by omega))) rfl ?_
 refine wpL_nil ?_
 refine thenS_n ?_
 refine wpS_cond_F (t := decide (R ≠ R)) rfl (decide_eq_false (by omega)) ?_
 refine wpS_skip ?_
 refine thenS_n ?_
 refine wpS_seq ?_
 refine wpS_region ?_
 refine s_y (v := .int .i64 0) (y_assign rfl) rfl ?_
 refine wpL_nil ?_
 refine thenS_n ?_
 refine wpS_ret ?_
 refine fin1 (M := []) (v := .int .i64 0) (.inr rfl) (.nil) Try.results212 rfl ?_
 exact fun w' hs => ⟨rfl, hs⟩
theorem rrunP_c (a1 a2 a3 : Option Addr) (n1 c1 n2 c2 n3 c3 : Nat) (l1 l2 l3 : List Opc) (R m S : Nat) (W : Int) (nb K : Nat) (ga : Option Addr) (gc : Nat) (li : List Pr) (w : World) (hj : JP R m S W nb K) (hn1 : l1.length = n1) (hr1 : Rds w a1 (l1.flatMap opcV)) (hb1 : n1 ≤ 1000000) (hn2 : l2.length = n2) (hr2 : Rds w a2 (l2.flatMap opcV)) (hb2 : n2 ≤ 1000000) (hn3 : l3.length = n3) (hr3 : Rds w a3 (l3.flatMap opcV)) (hb3 : n3 ≤ 1000000) (hck : (chkB ((m : Nat) : Int) l1 l2 l3) = true) (hl : li.length = R) (hr : Rds w ga (li.flatMap prV)) : Makes Try.prog 139 #[.agg #[.int .i64 ((m : Nat) : Int), .slice a1 n1 c1, .slice a2 n2 c2, .slice a3 n3 c3], .agg #[.int .i64 ((R : Nat) : Int), .int .i64 ((m : Nat) : Int), .int .i64 ((S : Nat) : Int), .int .i64 W], .slice ga R gc] w [] (X := (Option Addr × Nat) × List Pr) (fun x => .tuple #[slV x.2 x.1, .int .i64 0]) (fun x => [slR prV 2 89 x.2 x.1]) (fun x => OutI (doneC (chkB ((m : Nat) : Int) l1 l2 l3) l2) (doneC (chkB ((m : Nat) : Int) l1 l2 l3) l3) (org (chkB ((m : Nat) : Int) l1 l2 l3) ((m : Nat) : Int) l1 li) x.2 ∧ x.2.length ≤ 1000) := by
 refine calls_S (n := 162) (σ0 := (upd (upd (upd fr0 0 (.agg #[.int .i64 ((m : Nat) : Int), .slice a1 n1 c1, .slice a2 n2 c2, .slice a3 n3 c3])) 1 (.agg #[.int .i64 ((R : Nat) : Int), .int .i64 ((m : Nat) : Int), .int .i64 ((S : Nat) : Int), .int .i64 W])) 2 (.slice ga R gc))) (D := []) (A := []) Try.func139 rfl Try.ntmps139 rfl (a3_fr _ _ _) (SH.start w) ?_
 obtain ⟨hjok, hjb, hjs, hK5, ⟨hR1, hR2⟩, ⟨hm1, hm2⟩, ⟨hS1, hS2⟩, hnm, hrs, hrs2, ⟨hnb1, hnb2⟩⟩ := hj
 have hj : JP R m S W nb K := ⟨hjok, hjb, hjs, hK5, ⟨hR1, hR2⟩, ⟨hm1, hm2⟩, ⟨hS1, hS2⟩, hnm, hrs, hrs2, ⟨hnb1, hnb2⟩⟩
 have hp2 : 2 ^ K ≤ 32 := Nat.pow_le_pow_right (n := 2) (by decide) hK5
 have hp1 := Nat.two_pow_pos K
 refine wpS_seq ?_
 refine wpS_region ?_
 refine s_e rfl ?_
 refine e_box (v := .agg #[.int .i64 ((m : Nat) : Int), .slice a1 n1 c1, .slice a2 n2 c2, .slice a3 n3 c3]) (l := [.int .i64 ((m : Nat) : Int), .slice a1 n1 c1, .slice a2 n2 c2, .slice a3 n3 c3]) rfl rfl ?_
 intro b_1
 refine s_e rfl ?_
 refine e_box (v := .agg #[.int .i64 ((R : Nat) : Int), .int .i64 ((m : Nat) : Int), .int .i64 ((S : Nat) : Int), .int .i64 W]) (l := [.int .i64 ((R : Nat) : Int), .int .i64 ((m : Nat) : Int), .int .i64 ((S : Nat) : Int), .int .i64 W]) rfl rfl ?_
 intro b_2
 refine s_y (v := .slice none 0 0) (y_assign rfl) rfl ?_
 refine s_y (v := .int .i64 0) (y_assign rfl) rfl ?_
 refine wpL_nil ?_
 refine thenS_n ?_
 refine wpS_seq ?_
 refine wpS_region ?_
 refine s_y (v := .agg #[.int .i64 ((m : Nat) : Int), .slice a1 n1 c1, .slice a2 n2 c2, .slice a3 n3 c3]) (y_loadN rfl Try.isAgg84 Try.sizeOf84 (ownN (.t .h) rfl)) rfl ?_
 refine s_y (v := .agg #[.int .i64 ((R : Nat) : Int), .int .i64 ((m : Nat) : Int), .int .i64 ((S : Nat) : Int), .int .i64 W]) (y_loadN rfl Try.isAgg53 Try.sizeOf53 (ownN .h rfl)) rfl ?_
 refine s_y (v := .slice ga R gc) (y_move rfl) rfl ?_
 refine s_y (v := .int .i64 0) (y_call (args := #[.agg #[.int .i64 ((m : Nat) : Int), .slice a1 n1 c1, .slice a2 n2 c2, .slice a3 n3 c3], .agg #[.int .i64 ((R : Nat) : Int), .int .i64 ((m : Nat) : Int), .int .i64 ((S : Nat) : Int), .int .i64 W], .slice ga R gc]) Try.call212 (ev3 rfl rfl rfl) (fun w hs => rmay_c a1 a2 a3 n1 c1 n2 c2 n3 c3 l1 l2 l3 R m S W nb K ga gc li w hj hn1 ((oldR hr1) w hs) (by omega) hn2 ((oldR hr2) w hs) (by omega) hn3 ((oldR hr3) w hs) (by omega) hck hl)) rfl ?_
 refine s_y (v := .int .i64 0) (y_assign rfl) rfl ?_
 refine wpL_nil ?_
 refine thenS_n ?_
 refine wpS_seq ?_
 refine wpS_seq ?_
 refine wpS_region ?_
 refine s_y (v := .int .i64 0) (y_move rfl) rfl ?_
 refine s_y (v := .bool false) (y_neq (a := 0) (b := 0) (c := false) rfl rfl (by decide)) rfl ?_
 refine wpL_nil ?_
 refine thenS_n ?_
 refine wpS_cond_f rfl ?_
 refine wpS_skip ?_
 refine thenS_n ?_
 refine wpS_seq ?_
 refine wpS_region ?_
 refine s_y (v := .slice none 0 0) (y_assign rfl) rfl ?_
 refine wpL_nil ?_
 refine thenS_n ?_
 refine wpS_seq ?_
 refine wpS_seq ?_
 refine wpS_region ?_
 refine s_y (v := .int .i64 0) (y_assign rfl) rfl ?_
 refine wpL_nil ?_
 refine thenS_n ?_
 refine wpS_block ?_
 refine wpS_nil0 4 23 ?_
 refine wpS_loop (fun mez ds σ L => ∃ i : Nat, ∃ al : List Rec, ∃ xa : Option Addr, ∃ xc : Nat, mez = R - i ∧ (i ≤ R) ∧ (al = lv (orT (chkB ((m : Nat) : Int) l1 l2 l3) ((m : Nat) : Int) l1 li i)) ∧ ds = [] ∧ σ 2 = .slice ga R gc ∧ σ 3 = .pointer (some ⟨b_1, 0, none⟩) ∧ σ 9 = .slice xa al.length xc ∧ σ 10 = .int .i64 ((i : Nat) : Int) ∧ Ent L [osl xa xc al.length 4 23 (al.flatMap recV), cel b_2 53 [.int .i64 ((R : Nat) : Int), .int .i64 ((m : Nat) : Int), .int .i64 ((S : Nat) : Int), .int .i64 W], cel b_1 84 [.int .i64 ((m : Nat) : Int), .slice a1 n1 c1, .slice a2 n2 c2, .slice a3 n3 c3]]) (m0 := R - 0) ⟨0, [], none, 0, rfl, by omega, rfl, rfl, rfl, rfl, rfl, rfl, .p .h (.p .h (.p .h .nil))⟩ ?_
 rintro mez ds σ L ⟨i, al, xa, xc, hm_3, hf0_3, hf1_3, rfl, h2_3, h3_3, h9_3, h10_3, hE_3⟩
 refine wpS_ent hE_3 ?_; clear hE_3
 refine wpS_seq ?_
 refine wpS_seq ?_
 refine wpS_region ?_
 refine s_y (v := .int .i64 ((i : Nat) : Int)) (y_move h10_3) rfl ?_
 refine s_y (v := .slice ga R gc) (y_move h2_3) rfl ?_
 refine s_y (v := .int .i64 ((R : Nat) : Int)) (y_len (ty' := 0) (at_ := #[]) rfl Try.underlying153) rfl ?_
 refine s_y (v := .bool (decide (i < R))) (y_lss (a := ((i : Nat) : Int)) (b := ((R : Nat) : Int)) (c := decide (i < R)) rfl rfl (decide_eq_decide.2 (by omega))) rfl ?_
 refine wpL_nil ?_
 refine thenS_n ?_
 refine wpS_cond (t := decide (i < R)) rfl (fun b4 => ?_) (fun b4 => ?_)
 ·
  have p4 := of_decide_eq_true b4
  refine wpS_skip ?_
  refine thenS_n ?_
  refine wpS_seq ?_
  refine wpS_block ?_
  refine wpS_seq ?_
  refine wpS_anyL [cel b_1 84 [.int .i64 ((m : Nat) : Int), .slice a1 n1 c1, .slice a2 n2 c2, .slice a3 n3 c3]] [] (by kernel_rfl) ?_
  refine anyS_take (i := 0) rfl (by kernel_rfl) (by kernel_rfl) (by kernel_rfl) (by kernel_rfl) (Yq.of (v := .agg #[.int .i64 ((m : Nat) : Int), .slice a1 n1 c1, .slice a2 n2 c2, .slice a3 n3 c3]) (y_loadN h3_3 Try.isAgg84 Try.sizeOf84 (ownN .h rfl)) rfl) (.p (.t (.t .h)) .nil) ?_
  refine anyS_take (i := 1) rfl (by kernel_rfl) (by kernel_rfl) (by kernel_rfl) (by kernel_rfl) (Yq.of (v := .int .i64 ((i : Nat) : Int)) (y_move h10_3) rfl) (.p (.t (.t .h)) .nil) ?_
  refine anyS_take (i := 2) rfl (by kernel_rfl) (by kernel_rfl) (by kernel_rfl) (by kernel_rfl) (Yq.of (v := .slice ga R gc) (y_move h2_3) rfl) (.p (.t (.t .h)) .nil) ?_
  refine anyS_take (i := 3) rfl (by kernel_rfl) (by kernel_rfl) (by kernel_rfl) (by kernel_rfl) (Yq.of (v := .int .i64 ((i : Nat) : Int)) (y_move h10_3) rfl) (.p (.t (.t .h)) .nil) ?_
  refine anyS_take (i := 4) rfl (by kernel_rfl) (by kernel_rfl) (by kernel_rfl) (by kernel_rfl) (Yq.of (v := .pointer (some ⟨aB ga, aO ga + i * 2, none⟩)) (y_idx (o := i * 2) rfl rfl Try.underlying153 Try.sizeOf89 (oldR hr) ((fl_len prV_len _).trans (by first | omega | (simp only [List.length_set, List.length_take, List.length_drop]; done) | (simp only [List.length_set, List.length_take, List.length_drop]; omega))) (by decide) (by omega) (by omega) (by omega)) rfl) (.p (.t (.t .h)) .nil) ?_
  refine anyS_take (i := 5) rfl (by kernel_rfl) (by kernel_rfl) (by kernel_rfl) (by kernel_rfl) (Yq.of (v := .agg #[.int .i64 (((li.getD i default).1).toInt), .int .i64 (((li.getD i default).2).toInt)]) (y_loadN (vs := prV (li.getD i default)) rfl Try.isAgg89 Try.sizeOf89 (rdN (oldR hr) (fl_getN prV_len li i (by first | omega | (simp only [List.length_set, List.length_take, List.length_drop]; done) | (simp only [List.length_set, List.length_take, List.length_drop]; omega))))) rfl) (.p (.t (.t .h)) .nil) ?_
  refine anyS_all (rs := [6]) (by kernel_rfl) (by simp) ?_
  intro i hi; obtain rfl := List.mem_singleton.1 hi; clear hi
  refine opS_0 rfl rfl ?_
  refine e_call (f := 213) (args := #[.agg #[.int .i64 ((m : Nat) : Int), .slice a1 n1 c1, .slice a2 n2 c2, .slice a3 n3 c3], .int .i64 ((Int64.ofNat i).toInt), .agg #[.int .i64 (((li.getD i default).1).toInt), .int .i64 (((li.getD i default).2).toInt)]]) (X := Option Addr × Nat) (A := []) (M := [osl xa xc al.length 4 23 (al.flatMap recV), cel b_2 53 [.int .i64 ((R : Nat) : Int), .int .i64 ((m : Nat) : Int), .int .i64 ((S : Nat) : Int), .int .i64 W], cel b_1 84 [.int .i64 ((m : Nat) : Int), .slice a1 n1 c1, .slice a2 n2 c2, .slice a3 n3 c3]]) (V := slV (mapC (chkB ((m : Nat) : Int) l1 l2 l3) ((m : Nat) : Int) l1 (Int64.ofNat i) ((li.getD i default).1) ((li.getD i default).2))) (A' := fun x => [slR recV 4 23 (mapC (chkB ((m : Nat) : Int) l1 l2 l3) ((m : Nat) : Int) l1 (Int64.ofNat i) ((li.getD i default).1) ((li.getD i default).2)) x]) (C := fun _ => True) Try.call213 (ev3 rfl (congrArg (Value.int .i64) (onat (n := i) (by omega))) rfl) (.p .h (.p .h (.p .h .nil))) (fun w hs => gmap_c ((m : Nat) : Int) a1 a2 a3 n1 c1 n2 c2 n3 c3 l1 l2 l3 (Int64.ofNat i) ((li.getD i default).1) ((li.getD i default).2) w hn1 ((oldR hr1) w hs) (by omega) hn2 ((oldR hr2) w hs) (by omega) hn3 ((oldR hr3) w hs) (by omega)) ?_
  rintro ⟨a_5, c_6⟩ -
  have hml8 : (mapC (chkB ((m : Nat) : Int) l1 l2 l3) ((m : Nat) : Int) l1 (Int64.ofNat i) ((li.getD i default).1) ((li.getD i default).2)).length ≤ 4 := mapC_len
  refine ⟨.inr (.p (.t (.t (.t .h))) .nil), ?_⟩
  refine anyS_take (i := 7) rfl (by kernel_rfl) (by kernel_rfl) (by kernel_rfl) (by kernel_rfl) (Yq.of (v := .slice a_5 ((mapC (chkB ((m : Nat) : Int) l1 l2 l3) ((m : Nat) : Int) l1 (Int64.ofNat i) ((li.getD i default).1) ((li.getD i default).2)).length) c_6) (y_assign rfl) rfl) (.p (.t (.t (.t .h))) .nil) ?_
  refine anyS_done (by kernel_rfl) ?_
  refine thenS_n ?_
  refine wpS_seq ?_
  refine wpS_region ?_
  refine s_y (v := .int .i64 0) (y_assign rfl) rfl ?_
  refine wpL_nil ?_
  refine thenS_n ?_
  refine wpS_block ?_
  have hall1 : al.length ≤ 256 := by rw [(by assumption : al = _)]; have h1 := lv_len (orT (chkB ((m : Nat) : Int) l1 l2 l3) ((m : Nat) : Int) l1 li i); have h2 := orT_len hck (l := li) i; omega
  refine wpS_loop (fun mez ds σ L => ∃ j : Nat, ∃ bl : List Rec, ∃ ya : Option Addr, ∃ yc : Nat, mez = 4 - j ∧ (j ≤ (mapC (chkB ((m : Nat) : Int) l1 l2 l3) ((m : Nat) : Int) l1 (Int64.ofNat i) (li.getD i default).1 (li.getD i default).2).length) ∧ (bl = al ++ lv ((mapC (chkB ((m : Nat) : Int) l1 l2 l3) ((m : Nat) : Int) l1 (Int64.ofNat i) (li.getD i default).1 (li.getD i default).2).take j)) ∧ (bl.length ≤ al.length + j) ∧ ds = [] ∧ σ 2 = .slice ga R gc ∧ σ 3 = .pointer (some ⟨b_1, 0, none⟩) ∧ σ 9 = .slice ya bl.length yc ∧ σ 10 = .int .i64 ((i : Nat) : Int) ∧ σ 11 = .slice a_5 ((mapC (chkB ((m : Nat) : Int) l1 l2 l3) ((m : Nat) : Int) l1 (Int64.ofNat i) ((li.getD i default).1) ((li.getD i default).2)).length) c_6 ∧ σ 12 = .int .i64 ((j : Nat) : Int) ∧ Ent L [osl a_5 c_6 ((mapC (chkB ((m : Nat) : Int) l1 l2 l3) ((m : Nat) : Int) l1 (Int64.ofNat i) ((li.getD i default).1) ((li.getD i default).2)).length) 4 23 ((mapC (chkB ((m : Nat) : Int) l1 l2 l3) ((m : Nat) : Int) l1 (Int64.ofNat i) ((li.getD i default).1) ((li.getD i default).2)).flatMap recV), osl ya yc bl.length 4 23 (bl.flatMap recV), cel b_2 53 [.int .i64 ((R : Nat) : Int), .int .i64 ((m : Nat) : Int), .int .i64 ((S : Nat) : Int), .int .i64 W], cel b_1 84 [.int .i64 ((m : Nat) : Int), .slice a1 n1 c1, .slice a2 n2 c2, .slice a3 n3 c3]]) (m0 := 4 - 0) ⟨0, al, xa, xc, rfl, by omega, (by simp [lv]), by omega, rfl, h2_3, h3_3, h9_3, h10_3, rfl, rfl, .p .h (.p .h (.p .h (.p .h .nil)))⟩ ?_
  rintro mez ds σ L ⟨j, bl, ya, yc, hm_9, hf0_9, hf1_9, hf2_9, rfl, h2_9, h3_9, h9_9, h10_9, h11_9, h12_9, hE_9⟩
  refine wpS_ent hE_9 ?_; clear hE_9
  refine wpS_seq ?_
  refine wpS_seq ?_
  refine wpS_region ?_
  refine s_y (v := .int .i64 ((j : Nat) : Int)) (y_move h12_9) rfl ?_
  refine s_y (v := .slice a_5 ((mapC (chkB ((m : Nat) : Int) l1 l2 l3) ((m : Nat) : Int) l1 (Int64.ofNat i) ((li.getD i default).1) ((li.getD i default).2)).length) c_6) (y_move h11_9) rfl ?_
  refine s_y (v := .int .i64 (((mapC (chkB ((m : Nat) : Int) l1 l2 l3) ((m : Nat) : Int) l1 (Int64.ofNat i) ((li.getD i default).1) ((li.getD i default).2)).length : Nat) : Int)) (y_len (ty' := 0) (at_ := #[]) rfl Try.underlying69) rfl ?_
  refine s_y (v := .bool (decide (j < ((mapC (chkB ((m : Nat) : Int) l1 l2 l3) ((m : Nat) : Int) l1 (Int64.ofNat i) ((li.getD i default).1) ((li.getD i default).2)).length)))) (y_lss (a := ((j : Nat) : Int)) (b := (((mapC (chkB ((m : Nat) : Int) l1 l2 l3) ((m : Nat) : Int) l1 (Int64.ofNat i) ((li.getD i default).1) ((li.getD i default).2)).length : Nat) : Int)) (c := decide (j < ((mapC (chkB ((m : Nat) : Int) l1 l2 l3) ((m : Nat) : Int) l1 (Int64.ofNat i) ((li.getD i default).1) ((li.getD i default).2)).length))) rfl rfl (decide_eq_decide.2 (by omega))) rfl ?_
  refine wpL_nil ?_
  refine thenS_n ?_
  refine wpS_cond (t := decide (j < ((mapC (chkB ((m : Nat) : Int) l1 l2 l3) ((m : Nat) : Int) l1 (Int64.ofNat i) ((li.getD i default).1) ((li.getD i default).2)).length))) rfl (fun b10 => ?_) (fun b10 => ?_)
  ·
   have p10 := of_decide_eq_true b10
   refine wpS_skip ?_
   refine thenS_n ?_
   refine wpS_seq ?_
   refine wpS_block ?_
   refine wpS_seq ?_
   refine wpS_region ?_
   refine s_y (v := .slice a_5 ((mapC (chkB ((m : Nat) : Int) l1 l2 l3) ((m : Nat) : Int) l1 (Int64.ofNat i) ((li.getD i default).1) ((li.getD i default).2)).length) c_6) (y_move h11_9) rfl ?_
   refine s_y (v := .int .i64 ((j : Nat) : Int)) (y_move h12_9) rfl ?_
   refine s_y (v := .pointer (some ⟨aB a_5, aO a_5 + j * 4, none⟩)) (y_idx (o := j * 4) rfl rfl Try.underlying69 Try.sizeOf23 (oslR .h) (fl_len recV_len _) (by decide) (by omega) (by omega) (by omega)) rfl ?_
   refine s_y (v := .pointer (some ⟨aB a_5, aO a_5 + j * 4, none⟩)) (y_fieldAddr (o' := aO a_5 + j * 4) rfl Try.underlying23 rfl Try.sizeOf4 (by decide) rfl) rfl ?_
   refine s_y (v := .bool (((mapC (chkB ((m : Nat) : Int) l1 l2 l3) ((m : Nat) : Int) l1 (Int64.ofNat i) ((li.getD i default).1) ((li.getD i default).2)).getD j default).dead)) (y_load1 rfl Try.isAgg4 (rd1 (k := j * 4) (oslR .h) (fl_get0 recV_len (mapC (chkB ((m : Nat) : Int) l1 l2 l3) ((m : Nat) : Int) l1 (Int64.ofNat i) ((li.getD i default).1) ((li.getD i default).2)) j (by first | omega | (simp only [List.length_set, List.length_take, List.length_drop]; done) | (simp only [List.length_set, List.length_take, List.length_drop]; omega)) rfl))) rfl ?_
   refine s_y (v := .bool (!(((mapC (chkB ((m : Nat) : Int) l1 l2 l3) ((m : Nat) : Int) l1 (Int64.ofNat i) ((li.getD i default).1) ((li.getD i default).2)).getD j default).dead))) (y_not (b := ((mapC (chkB ((m : Nat) : Int) l1 l2 l3) ((m : Nat) : Int) l1 (Int64.ofNat i) ((li.getD i default).1) ((li.getD i default).2)).getD j default).dead) rfl) rfl ?_
   refine wpL_nil ?_
   refine thenS_n ?_
   refine wpS_cond (t := !(((mapC (chkB ((m : Nat) : Int) l1 l2 l3) ((m : Nat) : Int) l1 (Int64.ofNat i) ((li.getD i default).1) ((li.getD i default).2)).getD j default).dead)) rfl (fun b11 => ?_) (fun b11 => ?_)
   ·
    have b12 : (((mapC (chkB ((m : Nat) : Int) l1 l2 l3) ((m : Nat) : Int) l1 (Int64.ofNat i) ((li.getD i default).1) ((li.getD i default).2)).getD j default).dead) = false := by simpa using b11
    refine wpS_region ?_
    refine s_y (v := .slice ya bl.length yc) (y_move h9_9) rfl ?_
    refine s_y (v := .slice a_5 ((mapC (chkB ((m : Nat) : Int) l1 l2 l3) ((m : Nat) : Int) l1 (Int64.ofNat i) ((li.getD i default).1) ((li.getD i default).2)).length) c_6) (y_move h11_9) rfl ?_
    refine s_y (v := .int .i64 ((j : Nat) : Int)) (y_move h12_9) rfl ?_
    refine s_y (v := .pointer (some ⟨aB a_5, aO a_5 + j * 4, none⟩)) (y_idx (o := j * 4) rfl rfl Try.underlying69 Try.sizeOf23 (oslR .h) (fl_len recV_len _) (by decide) (by omega) (by omega) (by omega)) rfl ?_
    refine s_y (v := .agg #[.bool (((mapC (chkB ((m : Nat) : Int) l1 l2 l3) ((m : Nat) : Int) l1 (Int64.ofNat i) ((li.getD i default).1) ((li.getD i default).2)).getD j default).dead), .int .i64 ((((mapC (chkB ((m : Nat) : Int) l1 l2 l3) ((m : Nat) : Int) l1 (Int64.ofNat i) ((li.getD i default).1) ((li.getD i default).2)).getD j default).key).toInt), .int .i64 ((((mapC (chkB ((m : Nat) : Int) l1 l2 l3) ((m : Nat) : Int) l1 (Int64.ofNat i) ((li.getD i default).1) ((li.getD i default).2)).getD j default).value).toInt), .int .i64 ((((mapC (chkB ((m : Nat) : Int) l1 l2 l3) ((m : Nat) : Int) l1 (Int64.ofNat i) ((li.getD i default).1) ((li.getD i default).2)).getD j default).seq).toInt)]) (y_loadN (vs := recV ((mapC (chkB ((m : Nat) : Int) l1 l2 l3) ((m : Nat) : Int) l1 (Int64.ofNat i) ((li.getD i default).1) ((li.getD i default).2)).getD j default)) rfl Try.isAgg23 Try.sizeOf23 (rdN (oslR .h) (fl_getN recV_len (mapC (chkB ((m : Nat) : Int) l1 l2 l3) ((m : Nat) : Int) l1 (Int64.ofNat i) ((li.getD i default).1) ((li.getD i default).2)) j (by first | omega | (simp only [List.length_set, List.length_take, List.length_drop]; done) | (simp only [List.length_set, List.length_take, List.length_drop]; omega))))) rfl ?_
    refine s_e rfl ?_
    refine e_bsliceL (e := 23) (m := [(0, .agg #[.bool (((mapC (chkB ((m : Nat) : Int) l1 l2 l3) ((m : Nat) : Int) l1 (Int64.ofNat i) ((li.getD i default).1) ((li.getD i default).2)).getD j default).dead), .int .i64 ((((mapC (chkB ((m : Nat) : Int) l1 l2 l3) ((m : Nat) : Int) l1 (Int64.ofNat i) ((li.getD i default).1) ((li.getD i default).2)).getD j default).key).toInt), .int .i64 ((((mapC (chkB ((m : Nat) : Int) l1 l2 l3) ((m : Nat) : Int) l1 (Int64.ofNat i) ((li.getD i default).1) ((li.getD i default).2)).getD j default).value).toInt), .int .i64 ((((mapC (chkB ((m : Nat) : Int) l1 l2 l3) ((m : Nat) : Int) l1 (Int64.ofNat i) ((li.getD i default).1) ((li.getD i default).2)).getD j default).seq).toInt)])]) (l := [.bool (((mapC (chkB ((m : Nat) : Int) l1 l2 l3) ((m : Nat) : Int) l1 (Int64.ofNat i) ((li.getD i default).1) ((li.getD i default).2)).getD j default).dead), .int .i64 ((((mapC (chkB ((m : Nat) : Int) l1 l2 l3) ((m : Nat) : Int) l1 (Int64.ofNat i) ((li.getD i default).1) ((li.getD i default).2)).getD j default).key).toInt), .int .i64 ((((mapC (chkB ((m : Nat) : Int) l1 l2 l3) ((m : Nat) : Int) l1 (Int64.ofNat i) ((li.getD i default).1) ((li.getD i default).2)).getD j default).value).toInt), .int .i64 ((((mapC (chkB ((m : Nat) : Int) l1 l2 l3) ((m : Nat) : Int) l1 (Int64.ofNat i) ((li.getD i default).1) ((li.getD i default).2)).getD j default).seq).toInt)]) (evc rfl evn) (fun w => by kernel_rfl) ?_
    intro b_13
    refine s_e rfl ?_
    refine e_appendL (enc := recV) (xs := (bl : List Rec)) (ns := ([((mapC (chkB ((m : Nat) : Int) l1 l2 l3) ((m : Nat) : Int) l1 (Int64.ofNat i) ((li.getD i default).1) ((li.getD i default).2)).getD j default)] : List Rec)) (zs := (bl ++ [((mapC (chkB ((m : Nat) : Int) l1 l2 l3) ((m : Nat) : Int) l1 (Int64.ofNat i) ((li.getD i default).1) ((li.getD i default).2)).getD j default)])) (bytes := 32) recV_len recV_one Try.underlying69 (i := Try.t23) rfl rfl rfl rfl rfl (by decide) rfl rfl (by first | rfl | omega) (by first | rfl | omega) (.t (.t .h)) (fun w hs => celR .h w hs) (by first | rfl | simp) (by rw [List.length_append, List.length_singleton]; omega) (by rw [List.length_append, List.length_singleton]; omega) ?_
    intro a_14 c_15
    refine s_y (v := .slice a_14 ((bl ++ [((mapC (chkB ((m : Nat) : Int) l1 l2 l3) ((m : Nat) : Int) l1 (Int64.ofNat i) ((li.getD i default).1) ((li.getD i default).2)).getD j default)]).length) c_15) (y_assign rfl) rfl ?_
    refine wpL_nil ?_
    refine blockS_n ?_
    refine thenS_n ?_
    refine wpS_region ?_
    refine s_y (v := .int .i64 ((j : Nat) : Int)) (y_move h12_9) rfl ?_
    refine s_y (v := .int .i64 (((j + 1) : Nat) : Int)) (y_add (a := ((j : Nat) : Int)) (b := 1) rfl rfl (wI (by omega) (by omega) (by omega))) rfl ?_
    refine s_y (v := .int .i64 (((j + 1) : Nat) : Int)) (y_assign rfl) rfl ?_
    refine wpL_nil ?_
    refine thenS_n ?_
    exact ⟨_, by omega, ⟨(j + 1), (bl ++ [((mapC (chkB ((m : Nat) : Int) l1 l2 l3) ((m : Nat) : Int) l1 (Int64.ofNat i) ((li.getD i default).1) ((li.getD i default).2)).getD j default)]), a_14, c_15, rfl, by omega, (by first | exact lv_step (by assumption) (by omega) (by assumption) | exact lv_skip (by assumption) (by omega) (by assumption)), (by first | omega | (rw [List.length_append, List.length_singleton]; omega)), rfl, h2_9, h3_9, rfl, h10_9, h11_9, rfl, .p (.t (.t .h)) (.p .h (.p (.t .h) (.p (.t .h) .nil)))⟩⟩
   ·
    have b16 : (((mapC (chkB ((m : Nat) : Int) l1 l2 l3) ((m : Nat) : Int) l1 (Int64.ofNat i) ((li.getD i default).1) ((li.getD i default).2)).getD j default).dead) = true := by simpa using b11
    refine wpS_skip ?_
    refine blockS_n ?_
    refine thenS_n ?_
    refine wpS_region ?_
    refine s_y (v := .int .i64 ((j : Nat) : Int)) (y_move h12_9) rfl ?_
    refine s_y (v := .int .i64 (((j + 1) : Nat) : Int)) (y_add (a := ((j : Nat) : Int)) (b := 1) rfl rfl (wI (by omega) (by omega) (by omega))) rfl ?_
    refine s_y (v := .int .i64 (((j + 1) : Nat) : Int)) (y_assign rfl) rfl ?_
    refine wpL_nil ?_
    refine thenS_n ?_
    exact ⟨_, by omega, ⟨(j + 1), bl, ya, yc, rfl, by omega, (by first | exact lv_step (by assumption) (by omega) (by assumption) | exact lv_skip (by assumption) (by omega) (by assumption)), (by first | omega | (rw [List.length_append, List.length_singleton]; omega)), rfl, h2_9, h3_9, h9_9, h10_9, h11_9, rfl, .p .h (.p .h (.p .h (.p .h .nil)))⟩⟩
  ·
   have p10 := of_decide_eq_false b10
   refine wpS_exit ?_
   refine thenS_x ?_
   refine thenS_x ?_
   refine blockS_h ?_
   refine blockS_n ?_
   refine thenS_n ?_
   refine wpS_region ?_
   refine s_y (v := .int .i64 ((i : Nat) : Int)) (y_move h10_9) rfl ?_
   refine s_y (v := .int .i64 (((i + 1) : Nat) : Int)) (y_add (a := ((i : Nat) : Int)) (b := 1) rfl rfl (wI (by omega) (by omega) (by omega))) rfl ?_
   refine s_y (v := .int .i64 (((i + 1) : Nat) : Int)) (y_assign rfl) rfl ?_
   refine wpL_nil ?_
   refine thenS_n ?_
   exact ⟨_, by omega, ⟨(i + 1), bl, ya, yc, rfl, by omega, (orT_next (by assumption) (by omega) (by assumption)), rfl, h2_9, h3_9, h9_9, rfl, .p (.t .h) (.p (.t .h) (.p (.t .h) .nil))⟩⟩
 ·
  have p4 := of_decide_eq_false b4
  refine wpS_exit ?_
  refine thenS_x ?_
  refine thenS_x ?_
  refine blockS_h ?_
  refine thenS_n ?_
  refine wpS_seq ?_
  refine wpS_region ?_
  refine s_y (v := .slice none 0 0) (y_assign rfl) rfl ?_
  refine wpL_nil ?_
  refine thenS_n ?_
  refine wpS_seq ?_
  refine wpS_block ?_
  refine wpS_nil0 2 89 ?_
  have hal : al = lv (org (chkB ((m : Nat) : Int) l1 l2 l3) ((m : Nat) : Int) l1 li) := by rw [(by assumption : al = _), show i = R by omega, ← hl]; rfl
  have hall : al.length ≤ 256 := by rw [(by assumption : al = lv (orT (chkB ((m : Nat) : Int) l1 l2 l3) ((m : Nat) : Int) l1 li i))]; have h1 := lv_len (orT (chkB ((m : Nat) : Int) l1 l2 l3) ((m : Nat) : Int) l1 li i); have h2 := orT_len hck (l := li) i; omega
  have hdead : ∀ r ∈ al, r.dead = false := by rw [hal]; exact lv_live _
  refine wpS_loop (fun mez ds σ L => ∃ os : List Pr, ∃ pa : Option Addr, ∃ pc : Nat, mez = (al.filter fun r => ltrB os r.key).length ∧ (KeyI (doneC (chkB ((m : Nat) : Int) l1 l2 l3) l2) al os) ∧ (os.length + (al.filter fun r => ltrB os r.key).length ≤ al.length) ∧ ds = [] ∧ σ 3 = .pointer (some ⟨b_1, 0, none⟩) ∧ σ 9 = .slice xa al.length xc ∧ σ 13 = .slice pa os.length pc ∧ Ent L [osl pa pc os.length 2 89 (os.flatMap prV), osl xa xc al.length 4 23 (al.flatMap recV), cel b_2 53 [.int .i64 ((R : Nat) : Int), .int .i64 ((m : Nat) : Int), .int .i64 ((S : Nat) : Int), .int .i64 W], cel b_1 84 [.int .i64 ((m : Nat) : Int), .slice a1 n1 c1, .slice a2 n2 c2, .slice a3 n3 c3]]) (m0 := (al.filter fun r => ltrB [] r.key).length) ⟨[], none, 0, rfl, (key_0 _ _), (by have := List.length_filter_le (fun r : Rec => ltrB [] r.key) al; simp only [List.length_nil]; omega), rfl, h3_3, h9_3, rfl, .p .h (.p .h (.p .h (.p .h .nil)))⟩ ?_
  rintro mez ds σ L ⟨os, pa, pc, hm_17, hf0_17, hf1_17, rfl, h3_17, h9_17, h13_17, hE_17⟩
  refine wpS_ent hE_17 ?_; clear hE_17
  have hKI := (by assumption : KeyI (doneC (chkB ((m : Nat) : Int) l1 l2 l3) l2) al os)
  refine wpS_block ?_
  refine wpS_seq ?_
  refine wpS_region ?_
  refine s_y (v := .bool false) (y_assign rfl) rfl ?_
  refine wpL_nil ?_
  refine thenS_n ?_
  refine wpS_seq ?_
  refine wpS_region ?_
  refine s_y (v := .int .i64 0) (y_assign rfl) rfl ?_
  refine wpL_nil ?_
  refine thenS_n ?_
  refine wpS_seq ?_
  refine wpS_seq ?_
  refine wpS_region ?_
  refine s_y (v := .int .i64 0) (y_assign rfl) rfl ?_
  refine wpL_nil ?_
  refine thenS_n ?_
  refine wpS_block ?_
  refine wpS_loop (fun mez ds σ L => ∃ i1 : Nat, ∃ sm : Bool, ∃ ky : Int64, mez = al.length - i1 ∧ (i1 ≤ al.length) ∧ (MinI os al i1 sm ky) ∧ ds = [] ∧ σ 3 = .pointer (some ⟨b_1, 0, none⟩) ∧ σ 9 = .slice xa al.length xc ∧ σ 13 = .slice pa os.length pc ∧ σ 14 = .bool sm ∧ σ 15 = .int .i64 ky.toInt ∧ σ 16 = .int .i64 ((i1 : Nat) : Int) ∧ Ent L [osl pa pc os.length 2 89 (os.flatMap prV), osl xa xc al.length 4 23 (al.flatMap recV), cel b_2 53 [.int .i64 ((R : Nat) : Int), .int .i64 ((m : Nat) : Int), .int .i64 ((S : Nat) : Int), .int .i64 W], cel b_1 84 [.int .i64 ((m : Nat) : Int), .slice a1 n1 c1, .slice a2 n2 c2, .slice a3 n3 c3]]) (m0 := al.length - 0) ⟨0, false, 0, rfl, by omega, (min_0 os al 0), rfl, h3_17, h9_17, h13_17, rfl, rfl, rfl, .p .h (.p .h (.p .h (.p .h .nil)))⟩ ?_
  rintro mez ds σ L ⟨i1, sm, ky, hm_18, hf0_18, hf1_18, rfl, h3_18, h9_18, h13_18, h14_18, h15_18, h16_18, hE_18⟩
  refine wpS_ent hE_18 ?_; clear hE_18
  refine wpS_seq ?_
  refine wpS_seq ?_
  refine wpS_region ?_
  refine s_y (v := .int .i64 ((i1 : Nat) : Int)) (y_move h16_18) rfl ?_
  refine s_y (v := .slice xa al.length xc) (y_move h9_18) rfl ?_
  refine s_y (v := .int .i64 ((al.length : Nat) : Int)) (y_len (ty' := 0) (at_ := #[]) rfl Try.underlying69) rfl ?_
  refine s_y (v := .bool (decide (i1 < al.length))) (y_lss (a := ((i1 : Nat) : Int)) (b := ((al.length : Nat) : Int)) (c := decide (i1 < al.length)) rfl rfl (decide_eq_decide.2 (by omega))) rfl ?_
  refine wpL_nil ?_
  refine thenS_n ?_
  refine wpS_cond (t := decide (i1 < al.length)) rfl (fun b19 => ?_) (fun b19 => ?_)
  ·
   have p19 := of_decide_eq_true b19
   refine wpS_skip ?_
   refine thenS_n ?_
   refine wpS_seq ?_
   refine wpS_block ?_
   refine wpS_cut (fun ds σ L => ds = [] ∧ σ 3 = .pointer (some ⟨b_1, 0, none⟩) ∧ σ 9 = .slice xa al.length xc ∧ σ 13 = .slice pa os.length pc ∧ σ 14 = .bool sm ∧ σ 15 = .int .i64 ky.toInt ∧ σ 16 = .int .i64 ((i1 : Nat) : Int) ∧ σ 17 = .bool (ltrB os (al.getD i1 default).key) ∧ Ent L [osl pa pc os.length 2 89 (os.flatMap prV), osl xa xc al.length 4 23 (al.flatMap recV), cel b_2 53 [.int .i64 ((R : Nat) : Int), .int .i64 ((m : Nat) : Int), .int .i64 ((S : Nat) : Int), .int .i64 W], cel b_1 84 [.int .i64 ((m : Nat) : Int), .slice a1 n1 c1, .slice a2 n2 c2, .slice a3 n3 c3]]) ?_ ?_
   ·
    refine wpS_lex (by kernel_rfl) (by kernel_rfl) ?_
    refine x_y (v := .slice pa os.length pc) (y_move h13_18) rfl ?_
    refine x_y (v := .int .i64 ((os.length : Nat) : Int)) (y_len (ty' := 0) (at_ := #[]) rfl Try.underlying153) rfl ?_
    refine x_y (v := .bool (decide ((os.length : Nat) = 0))) (y_eql (a := ((os.length : Nat) : Int)) (b := 0) (c := decide ((os.length : Nat) = 0)) rfl rfl (decide_eq_decide.2 (by omega))) rfl ?_
    refine x_y (v := .bool (decide ((os.length : Nat) = 0))) (y_move rfl) rfl ?_
    rcases Bool.eq_false_or_eq_true (decide ((os.length : Nat) = 0)) with b20 | b20
    ·
     have p20 := of_decide_eq_true b20
     refine x_no rfl rfl rfl rfl (b' := decide ((os.length : Nat) = 0)) rfl b20 ?_
     refine x_no rfl rfl rfl rfl (b' := decide ((os.length : Nat) = 0)) rfl b20 ?_
     refine x_no rfl rfl rfl rfl (b' := decide ((os.length : Nat) = 0)) rfl b20 ?_
     refine x_no rfl rfl rfl rfl (b' := decide ((os.length : Nat) = 0)) rfl b20 ?_
     refine x_no rfl rfl rfl rfl (b' := decide ((os.length : Nat) = 0)) rfl b20 ?_
     refine x_no rfl rfl rfl rfl (b' := decide ((os.length : Nat) = 0)) rfl b20 ?_
     refine x_no rfl rfl rfl rfl (b' := decide ((os.length : Nat) = 0)) rfl b20 ?_
     refine x_no rfl rfl rfl rfl (b' := decide ((os.length : Nat) = 0)) rfl b20 ?_
     refine x_no rfl rfl rfl rfl (b' := decide ((os.length : Nat) = 0)) rfl b20 ?_
     refine x_no rfl rfl rfl rfl (b' := decide ((os.length : Nat) = 0)) rfl b20 ?_
     refine x_no rfl rfl rfl rfl (b' := decide ((os.length : Nat) = 0)) rfl b20 ?_
     refine x_no rfl rfl rfl rfl (b' := decide ((os.length : Nat) = 0)) rfl b20 ?_
     refine x_no rfl rfl rfl rfl (b' := decide ((os.length : Nat) = 0)) rfl b20 ?_
     refine x_y (v := .bool true) (y_pickT (b := decide ((os.length : Nat) = 0)) rfl b20 rfl) rfl ?_
     refine x_y (v := .bool true) (y_assign rfl) rfl ?_
     refine x_nil ?_
     refine thenS_n ?_
     exact ⟨rfl, h3_18, h9_18, h13_18, h14_18, h15_18, h16_18, (congrArg Value.bool (by first | exact ltr_e (by omega) | exact ltr_n (by omega))), .p .h (.p .h (.p .h (.p .h .nil)))⟩
    ·
     have p20 := of_decide_eq_false b20
     refine x_gy (y_move h9_18) rfl rfl rfl rfl (b' := decide ((os.length : Nat) = 0)) rfl b20 ?_
     refine x_gy (y_move h16_18) rfl rfl rfl rfl (b' := decide ((os.length : Nat) = 0)) rfl b20 ?_
     refine x_gy (y_idx (o := i1 * 4) rfl rfl Try.underlying69 Try.sizeOf23 (oslR (.t .h)) (fl_len recV_len _) (by decide) (by omega) (by omega) (by omega)) rfl rfl rfl rfl (b' := decide ((os.length : Nat) = 0)) rfl b20 ?_
     refine x_gy (y_fieldAddr (o' := aO xa + i1 * 4 + 1) rfl Try.underlying23 rfl Try.sizeOf2 (by decide) rfl) rfl rfl rfl rfl (b' := decide ((os.length : Nat) = 0)) rfl b20 ?_
     refine x_gy (y_load1 (v := .int .i64 (((al.getD i1 default).key).toInt)) rfl Try.isAgg2 (rd1 (k := i1 * 4 + 1) (oslR (.t .h)) (fl_get1 (f := 1) recV_len al i1 (by first | omega | (simp only [List.length_set, List.length_take, List.length_drop]; done) | (simp only [List.length_set, List.length_take, List.length_drop]; omega)) rfl))) rfl rfl rfl rfl (b' := decide ((os.length : Nat) = 0)) rfl b20 ?_
     refine x_gy (y_move h13_18) rfl rfl rfl rfl (b' := decide ((os.length : Nat) = 0)) rfl b20 ?_
     refine x_gy (y_move h13_18) rfl rfl rfl rfl (b' := decide ((os.length : Nat) = 0)) rfl b20 ?_
     refine x_gy (y_len (ty' := 0) (at_ := #[]) rfl Try.underlying153) rfl rfl rfl rfl (b' := decide ((os.length : Nat) = 0)) rfl b20 ?_
     refine x_gy (y_sub (a := ((os.length : Nat) : Int)) (b := 1) (c := (((os.length - 1) : Nat) : Int)) rfl rfl (wI (by omega) (by omega) (by omega))) rfl rfl rfl rfl (b' := decide ((os.length : Nat) = 0)) rfl b20 ?_
     refine x_gy (y_idx (o := (os.length - 1) * 2) rfl rfl Try.underlying153 Try.sizeOf89 (oslR .h) (fl_len prV_len _) (by decide) (by omega) (by omega) (by omega)) rfl rfl rfl rfl (b' := decide ((os.length : Nat) = 0)) rfl b20 ?_
     refine x_gy (y_fieldAddr (o' := aO pa + (os.length - 1) * 2) rfl Try.underlying89 rfl Try.sizeOf2 (by decide) rfl) rfl rfl rfl rfl (b' := decide ((os.length : Nat) = 0)) rfl b20 ?_
     refine x_gy (y_load1 (v := .int .i64 (((os.getD (os.length - 1) default).1).toInt)) rfl Try.isAgg2 (rd1 (k := (os.length - 1) * 2) (oslR .h) (fl_get0 prV_len os (os.length - 1) (by first | omega | (simp only [List.length_set, List.length_take, List.length_drop]; done) | (simp only [List.length_set, List.length_take, List.length_drop]; omega)) rfl))) rfl rfl rfl rfl (b' := decide ((os.length : Nat) = 0)) rfl b20 ?_
     refine x_gy (y_gtr (a := ((al.getD i1 default).key).toInt) (b := ((os.getD (os.length - 1) default).1).toInt) (c := decide (((os.getD (os.length - 1) default).1) < ((al.getD i1 default).key))) rfl rfl (i_lss _ _)) rfl rfl rfl rfl (b' := decide ((os.length : Nat) = 0)) rfl b20 ?_
     refine x_y (v := .bool (decide (((os.getD (os.length - 1) default).1) < ((al.getD i1 default).key)))) (y_pickF (b := decide ((os.length : Nat) = 0)) rfl b20 rfl) rfl ?_
     refine x_y (v := .bool (decide (((os.getD (os.length - 1) default).1) < ((al.getD i1 default).key)))) (y_assign rfl) rfl ?_
     refine x_nil ?_
     refine thenS_n ?_
     exact ⟨rfl, h3_18, h9_18, h13_18, h14_18, h15_18, h16_18, (congrArg Value.bool (by first | exact ltr_e (by omega) | exact ltr_n (by omega))), .p .h (.p .h (.p .h (.p .h .nil)))⟩
   rintro ds σ L ⟨rfl, h3_21, h9_21, h13_21, h14_21, h15_21, h16_21, h17_21, hE_21⟩
   refine wpS_ent hE_21 ?_; clear hE_21
   refine wpS_seq ?_
   refine wpS_region ?_
   refine s_y (v := .bool (ltrB os (al.getD i1 default).key)) (y_move h17_21) rfl ?_
   refine s_y (v := .bool (ltrB os (al.getD i1 default).key)) (y_move rfl) rfl ?_
   rcases Bool.eq_false_or_eq_true (ltrB os (al.getD i1 default).key) with b22 | b22
   ·
    refine s_gy (y_move h14_21) rfl rfl rfl rfl (b' := (ltrB os (al.getD i1 default).key)) rfl b22 ?_
    refine s_gy (y_not (b := sm) rfl) rfl rfl rfl rfl (b' := (ltrB os (al.getD i1 default).key)) rfl b22 ?_
    refine s_gy (y_move rfl) rfl rfl rfl rfl (b' := (ltrB os (al.getD i1 default).key)) rfl b22 ?_
    rcases Bool.eq_false_or_eq_true (!sm) with b23 | b23
    ·
     have b24 : sm = false := by simpa using b23
     refine s_no rfl rfl rfl rfl (b' := !sm) rfl b23 ?_
     refine s_no rfl rfl rfl rfl (b' := !sm) rfl b23 ?_
     refine s_no rfl rfl rfl rfl (b' := !sm) rfl b23 ?_
     refine s_no rfl rfl rfl rfl (b' := !sm) rfl b23 ?_
     refine s_no rfl rfl rfl rfl (b' := !sm) rfl b23 ?_
     refine s_no rfl rfl rfl rfl (b' := !sm) rfl b23 ?_
     refine s_no rfl rfl rfl rfl (b' := !sm) rfl b23 ?_
     refine s_gy (y_pickT (b := !sm) (v := .bool true) rfl b23 rfl) rfl rfl rfl rfl (b' := (ltrB os (al.getD i1 default).key)) rfl b22 ?_
     refine s_y (v := .bool true) (y_pickT (b := (ltrB os (al.getD i1 default).key)) rfl b22 rfl) rfl ?_
     refine wpL_nil ?_
     refine thenS_n ?_
     refine wpS_cond_t rfl ?_
     refine wpS_lex (by kernel_rfl) (by kernel_rfl) ?_
     refine x_y (v := .slice xa al.length xc) (y_move h9_21) rfl ?_
     refine x_y (v := .int .i64 ((i1 : Nat) : Int)) (y_move h16_21) rfl ?_
     refine x_y (v := .pointer (some ⟨aB xa, aO xa + i1 * 4, none⟩)) (y_idx (o := i1 * 4) rfl rfl Try.underlying69 Try.sizeOf23 (oslR (.t .h)) (fl_len recV_len _) (by decide) (by omega) (by omega) (by omega)) rfl ?_
     refine x_y (v := .pointer (some ⟨aB xa, aO xa + i1 * 4 + 1, none⟩)) (y_fieldAddr (o' := aO xa + i1 * 4 + 1) rfl Try.underlying23 rfl Try.sizeOf2 (by decide) rfl) rfl ?_
     refine x_y (v := .int .i64 (((al.getD i1 default).key).toInt)) (y_load1 rfl Try.isAgg2 (rd1 (k := i1 * 4 + 1) (oslR (.t .h)) (fl_get1 (f := 1) recV_len al i1 (by first | omega | (simp only [List.length_set, List.length_take, List.length_drop]; done) | (simp only [List.length_set, List.length_take, List.length_drop]; omega)) rfl))) rfl ?_
     refine x_y (v := .bool true) (y_assign rfl) rfl ?_
     refine x_y (v := .int .i64 (((al.getD i1 default).key).toInt)) (y_assign rfl) rfl ?_
     refine x_nil ?_
     refine blockS_n ?_
     refine thenS_n ?_
     refine wpS_region ?_
     refine s_y (v := .int .i64 ((i1 : Nat) : Int)) (y_move h16_21) rfl ?_
     refine s_y (v := .int .i64 (((i1 + 1) : Nat) : Int)) (y_add (a := ((i1 : Nat) : Int)) (b := 1) rfl rfl (wI (by omega) (by omega) (by omega))) rfl ?_
     refine s_y (v := .int .i64 (((i1 + 1) : Nat) : Int)) (y_assign rfl) rfl ?_
     refine wpL_nil ?_
     refine thenS_n ?_
     exact ⟨_, by omega, ⟨(i1 + 1), true, (al.getD i1 default).key, rfl, by omega, (by first | exact min_skip (by assumption) (by assumption) | exact min_new (by assumption) (by assumption) (.inl (by assumption)) | exact min_new (by assumption) (by assumption) (.inr (by assumption)) | exact min_more (by assumption) (by assumption) (by assumption)), rfl, h3_21, h9_21, h13_21, rfl, rfl, rfl, .p .h (.p .h (.p .h (.p .h .nil)))⟩⟩
    ·
     have b25 : sm = true := by simpa using b23
     refine s_gy (y_move h9_21) rfl rfl rfl rfl (b' := !sm) rfl b23 ?_
     refine s_gy (y_move h16_21) rfl rfl rfl rfl (b' := !sm) rfl b23 ?_
     refine s_gy (y_idx (o := i1 * 4) rfl rfl Try.underlying69 Try.sizeOf23 (oslR (.t .h)) (fl_len recV_len _) (by decide) (by omega) (by omega) (by omega)) rfl rfl rfl rfl (b' := !sm) rfl b23 ?_
     refine s_gy (y_fieldAddr (o' := aO xa + i1 * 4 + 1) rfl Try.underlying23 rfl Try.sizeOf2 (by decide) rfl) rfl rfl rfl rfl (b' := !sm) rfl b23 ?_
     refine s_gy (y_load1 (v := .int .i64 (((al.getD i1 default).key).toInt)) rfl Try.isAgg2 (rd1 (k := i1 * 4 + 1) (oslR (.t .h)) (fl_get1 (f := 1) recV_len al i1 (by first | omega | (simp only [List.length_set, List.length_take, List.length_drop]; done) | (simp only [List.length_set, List.length_take, List.length_drop]; omega)) rfl))) rfl rfl rfl rfl (b' := !sm) rfl b23 ?_
     refine s_gy (y_move h15_21) rfl rfl rfl rfl (b' := !sm) rfl b23 ?_
     refine s_gy (y_lss (a := ((al.getD i1 default).key).toInt) (b := ky.toInt) (c := decide (((al.getD i1 default).key) < ky)) rfl rfl (i_lss _ _)) rfl rfl rfl rfl (b' := !sm) rfl b23 ?_
     refine s_gy (y_pickF (b := !sm) (v := .bool (decide (((al.getD i1 default).key) < ky))) rfl b23 rfl) rfl rfl rfl rfl (b' := (ltrB os (al.getD i1 default).key)) rfl b22 ?_
     refine s_y (v := .bool (decide (((al.getD i1 default).key) < ky))) (y_pickT (b := (ltrB os (al.getD i1 default).key)) rfl b22 rfl) rfl ?_
     refine wpL_nil ?_
     refine thenS_n ?_
     refine wpS_cond (t := decide (((al.getD i1 default).key) < ky)) rfl (fun b26 => ?_) (fun b26 => ?_)
     ·
      have p26 := of_decide_eq_true b26
      refine wpS_lex (by kernel_rfl) (by kernel_rfl) ?_
      refine x_y (v := .slice xa al.length xc) (y_move h9_21) rfl ?_
      refine x_y (v := .int .i64 ((i1 : Nat) : Int)) (y_move h16_21) rfl ?_
      refine x_y (v := .pointer (some ⟨aB xa, aO xa + i1 * 4, none⟩)) (y_idx (o := i1 * 4) rfl rfl Try.underlying69 Try.sizeOf23 (oslR (.t .h)) (fl_len recV_len _) (by decide) (by omega) (by omega) (by omega)) rfl ?_
      refine x_y (v := .pointer (some ⟨aB xa, aO xa + i1 * 4 + 1, none⟩)) (y_fieldAddr (o' := aO xa + i1 * 4 + 1) rfl Try.underlying23 rfl Try.sizeOf2 (by decide) rfl) rfl ?_
      refine x_y (v := .int .i64 (((al.getD i1 default).key).toInt)) (y_load1 rfl Try.isAgg2 (rd1 (k := i1 * 4 + 1) (oslR (.t .h)) (fl_get1 (f := 1) recV_len al i1 (by first | omega | (simp only [List.length_set, List.length_take, List.length_drop]; done) | (simp only [List.length_set, List.length_take, List.length_drop]; omega)) rfl))) rfl ?_
      refine x_y (v := .bool true) (y_assign rfl) rfl ?_
      refine x_y (v := .int .i64 (((al.getD i1 default).key).toInt)) (y_assign rfl) rfl ?_
      refine x_nil ?_
      refine blockS_n ?_
      refine thenS_n ?_
      refine wpS_region ?_
      refine s_y (v := .int .i64 ((i1 : Nat) : Int)) (y_move h16_21) rfl ?_
      refine s_y (v := .int .i64 (((i1 + 1) : Nat) : Int)) (y_add (a := ((i1 : Nat) : Int)) (b := 1) rfl rfl (wI (by omega) (by omega) (by omega))) rfl ?_
      refine s_y (v := .int .i64 (((i1 + 1) : Nat) : Int)) (y_assign rfl) rfl ?_
      refine wpL_nil ?_
      refine thenS_n ?_
      exact ⟨_, by omega, ⟨(i1 + 1), true, (al.getD i1 default).key, rfl, by omega, (by first | exact min_skip (by assumption) (by assumption) | exact min_new (by assumption) (by assumption) (.inl (by assumption)) | exact min_new (by assumption) (by assumption) (.inr (by assumption)) | exact min_more (by assumption) (by assumption) (by assumption)), rfl, h3_21, h9_21, h13_21, rfl, rfl, rfl, .p .h (.p .h (.p .h (.p .h .nil)))⟩⟩
     ·
      have p26 := of_decide_eq_false b26
      refine wpS_skip ?_
      refine blockS_n ?_
      refine thenS_n ?_
      refine wpS_region ?_
      refine s_y (v := .int .i64 ((i1 : Nat) : Int)) (y_move h16_21) rfl ?_
      refine s_y (v := .int .i64 (((i1 + 1) : Nat) : Int)) (y_add (a := ((i1 : Nat) : Int)) (b := 1) rfl rfl (wI (by omega) (by omega) (by omega))) rfl ?_
      refine s_y (v := .int .i64 (((i1 + 1) : Nat) : Int)) (y_assign rfl) rfl ?_
      refine wpL_nil ?_
      refine thenS_n ?_
      exact ⟨_, by omega, ⟨(i1 + 1), sm, ky, rfl, by omega, (by first | exact min_skip (by assumption) (by assumption) | exact min_new (by assumption) (by assumption) (.inl (by assumption)) | exact min_new (by assumption) (by assumption) (.inr (by assumption)) | exact min_more (by assumption) (by assumption) (by assumption)), rfl, h3_21, h9_21, h13_21, h14_21, h15_21, rfl, .p .h (.p .h (.p .h (.p .h .nil)))⟩⟩
   ·
    refine s_no rfl rfl rfl rfl (b' := (ltrB os (al.getD i1 default).key)) rfl b22 ?_
    refine s_no rfl rfl rfl rfl (b' := (ltrB os (al.getD i1 default).key)) rfl b22 ?_
    refine s_no rfl rfl rfl rfl (b' := (ltrB os (al.getD i1 default).key)) rfl b22 ?_
    refine s_nu rfl rfl rfl rfl rfl ?_
    refine s_nu rfl rfl rfl rfl rfl ?_
    refine s_nu rfl rfl rfl rfl rfl ?_
    refine s_nu rfl rfl rfl rfl rfl ?_
    refine s_nu rfl rfl rfl rfl rfl ?_
    refine s_nu rfl rfl rfl rfl rfl ?_
    refine s_nu rfl rfl rfl rfl rfl ?_
    refine s_no rfl rfl rfl rfl (b' := (ltrB os (al.getD i1 default).key)) rfl b22 ?_
    refine s_y (v := .bool false) (y_pickF (b := (ltrB os (al.getD i1 default).key)) rfl b22 rfl) rfl ?_
    refine wpL_nil ?_
    refine thenS_n ?_
    refine wpS_cond_f rfl ?_
    refine wpS_skip ?_
    refine blockS_n ?_
    refine thenS_n ?_
    refine wpS_region ?_
    refine s_y (v := .int .i64 ((i1 : Nat) : Int)) (y_move h16_21) rfl ?_
    refine s_y (v := .int .i64 (((i1 + 1) : Nat) : Int)) (y_add (a := ((i1 : Nat) : Int)) (b := 1) rfl rfl (wI (by omega) (by omega) (by omega))) rfl ?_
    refine s_y (v := .int .i64 (((i1 + 1) : Nat) : Int)) (y_assign rfl) rfl ?_
    refine wpL_nil ?_
    refine thenS_n ?_
    exact ⟨_, by omega, ⟨(i1 + 1), sm, ky, rfl, by omega, (by first | exact min_skip (by assumption) (by assumption) | exact min_new (by assumption) (by assumption) (.inl (by assumption)) | exact min_new (by assumption) (by assumption) (.inr (by assumption)) | exact min_more (by assumption) (by assumption) (by assumption)), rfl, h3_21, h9_21, h13_21, h14_21, h15_21, rfl, .p .h (.p .h (.p .h (.p .h .nil)))⟩⟩
  ·
   have p19 := of_decide_eq_false b19
   refine wpS_exit ?_
   refine thenS_x ?_
   refine thenS_x ?_
   refine blockS_h ?_
   refine thenS_n ?_
   refine wpS_seq ?_
   refine wpS_seq ?_
   refine wpS_region ?_
   refine s_y (v := .bool sm) (y_move h14_18) rfl ?_
   refine s_y (v := .bool (!sm)) (y_not (b := sm) rfl) rfl ?_
   refine wpL_nil ?_
   refine thenS_n ?_
   refine wpS_cond (t := !sm) rfl (fun b27 => ?_) (fun b27 => ?_)
   ·
    have b28 : sm = false := by simpa using b27
    refine wpS_exit ?_
    refine thenS_x ?_
    refine blockS_m rfl ?_
    refine thenS_x ?_
    refine blockS_h ?_
    refine thenS_n ?_
    refine wpS_seq ?_
    refine wpS_seq ?_
    refine wpS_region ?_
    refine s_y (v := .int .i64 0) (y_assign rfl) rfl ?_
    refine wpL_nil ?_
    refine thenS_n ?_
    refine wpS_block ?_
    refine wpS_loop (fun mez ds σ L => ∃ z : Nat, mez = os.length - z ∧ (z ≤ os.length) ∧ ds = [] ∧ σ 3 = .pointer (some ⟨b_1, 0, none⟩) ∧ σ 13 = .slice pa os.length pc ∧ σ 21 = .int .i64 ((z : Nat) : Int) ∧ Ent L [osl pa pc os.length 2 89 ((finT (doneC (chkB ((m : Nat) : Int) l1 l2 l3) l3) os z).flatMap prV), osl xa xc al.length 4 23 (al.flatMap recV), cel b_2 53 [.int .i64 ((R : Nat) : Int), .int .i64 ((m : Nat) : Int), .int .i64 ((S : Nat) : Int), .int .i64 W], cel b_1 84 [.int .i64 ((m : Nat) : Int), .slice a1 n1 c1, .slice a2 n2 c2, .slice a3 n3 c3]]) (m0 := os.length - 0) ⟨0, rfl, by omega, rfl, h3_18, h13_18, rfl, .p .h (.p .h (.p .h (.p .h .nil)))⟩ ?_
    rintro mez ds σ L ⟨z, hm_29, hf0_29, rfl, h3_29, h13_29, h21_29, hE_29⟩
    refine wpS_ent hE_29 ?_; clear hE_29
    have hfl := finT_len (doneC (chkB ((m : Nat) : Int) l1 l2 l3) l3) os z
    refine wpS_seq ?_
    refine wpS_seq ?_
    refine wpS_region ?_
    refine s_y (v := .int .i64 ((z : Nat) : Int)) (y_move h21_29) rfl ?_
    refine s_y (v := .slice pa os.length pc) (y_move h13_29) rfl ?_
    refine s_y (v := .int .i64 ((os.length : Nat) : Int)) (y_len (ty' := 0) (at_ := #[]) rfl Try.underlying153) rfl ?_
    refine s_y (v := .bool (decide (z < os.length))) (y_lss (a := ((z : Nat) : Int)) (b := ((os.length : Nat) : Int)) (c := decide (z < os.length)) rfl rfl (decide_eq_decide.2 (by omega))) rfl ?_
    refine wpL_nil ?_
    refine thenS_n ?_
    refine wpS_cond (t := decide (z < os.length)) rfl (fun b30 => ?_) (fun b30 => ?_)
    ·
     have p30 := of_decide_eq_true b30
     refine wpS_skip ?_
     refine thenS_n ?_
     refine wpS_seq ?_
     refine wpS_block ?_
     refine wpS_anyL [osl pa pc os.length 2 89 ((finT (doneC (chkB ((m : Nat) : Int) l1 l2 l3) l3) os z).flatMap prV), cel b_1 84 [.int .i64 ((m : Nat) : Int), .slice a1 n1 c1, .slice a2 n2 c2, .slice a3 n3 c3]] [16] (by kernel_rfl) ?_
     refine anyS_take (i := 0) rfl (by kernel_rfl) (by kernel_rfl) (by kernel_rfl) (by kernel_rfl) (Yq.of (v := .slice pa os.length pc) (y_move h13_29) rfl) (.p .h (.p (.t (.t .h)) .nil)) ?_
     refine anyS_take (i := 1) rfl (by kernel_rfl) (by kernel_rfl) (by kernel_rfl) (by kernel_rfl) (Yq.of (v := .int .i64 ((z : Nat) : Int)) (y_move h21_29) rfl) (.p .h (.p (.t (.t .h)) .nil)) ?_
     refine anyS_take (i := 2) rfl (by kernel_rfl) (by kernel_rfl) (by kernel_rfl) (by kernel_rfl) (Yq.of (v := .agg #[.int .i64 ((m : Nat) : Int), .slice a1 n1 c1, .slice a2 n2 c2, .slice a3 n3 c3]) (y_loadN h3_29 Try.isAgg84 Try.sizeOf84 (ownN (.t .h) rfl)) rfl) (.p .h (.p (.t (.t .h)) .nil)) ?_
     refine anyS_take (i := 3) rfl (by kernel_rfl) (by kernel_rfl) (by kernel_rfl) (by kernel_rfl) (Yq.of (v := .slice pa os.length pc) (y_move h13_29) rfl) (.p .h (.p (.t (.t .h)) .nil)) ?_
     refine anyS_take (i := 4) rfl (by kernel_rfl) (by kernel_rfl) (by kernel_rfl) (by kernel_rfl) (Yq.of (v := .int .i64 ((z : Nat) : Int)) (y_move h21_29) rfl) (.p .h (.p (.t (.t .h)) .nil)) ?_
     refine anyS_take (i := 5) rfl (by kernel_rfl) (by kernel_rfl) (by kernel_rfl) (by kernel_rfl) (Yq.of (v := .pointer (some ⟨aB pa, aO pa + z * 2, none⟩)) (y_idx (o := z * 2) rfl rfl Try.underlying153 Try.sizeOf89 (oslR .h) ((fl_len prV_len _).trans (by first | omega | (simp only [List.length_set, List.length_take, List.length_drop]; done) | (simp only [List.length_set, List.length_take, List.length_drop]; omega))) (by decide) (by omega) (by omega) (by omega)) rfl) (.p .h (.p (.t (.t .h)) .nil)) ?_
     refine anyS_take (i := 6) rfl (by kernel_rfl) (by kernel_rfl) (by kernel_rfl) (by kernel_rfl) (Yq.of (v := .pointer (some ⟨aB pa, aO pa + z * 2, none⟩)) (y_fieldAddr (o' := aO pa + z * 2) rfl Try.underlying89 rfl Try.sizeOf2 (by decide) rfl) rfl) (.p .h (.p (.t (.t .h)) .nil)) ?_
     refine anyS_take (i := 7) rfl (by kernel_rfl) (by kernel_rfl) (by kernel_rfl) (by kernel_rfl) (Yq.of (v := .int .i64 ((((finT (doneC (chkB ((m : Nat) : Int) l1 l2 l3) l3) os z).getD z default).1).toInt)) (y_load1 rfl Try.isAgg2 (rd1 (k := z * 2) (oslR .h) (fl_get0 prV_len (finT (doneC (chkB ((m : Nat) : Int) l1 l2 l3) l3) os z) z (by first | omega | (simp only [List.length_set, List.length_take, List.length_drop]; done) | (simp only [List.length_set, List.length_take, List.length_drop]; omega)) rfl))) rfl) (.p .h (.p (.t (.t .h)) .nil)) ?_
     refine anyS_take (i := 8) rfl (by kernel_rfl) (by kernel_rfl) (by kernel_rfl) (by kernel_rfl) (Yq.of (v := .slice pa os.length pc) (y_move h13_29) rfl) (.p .h (.p (.t (.t .h)) .nil)) ?_
     refine anyS_take (i := 9) rfl (by kernel_rfl) (by kernel_rfl) (by kernel_rfl) (by kernel_rfl) (Yq.of (v := .int .i64 ((z : Nat) : Int)) (y_move h21_29) rfl) (.p .h (.p (.t (.t .h)) .nil)) ?_
     refine anyS_take (i := 10) rfl (by kernel_rfl) (by kernel_rfl) (by kernel_rfl) (by kernel_rfl) (Yq.of (v := .pointer (some ⟨aB pa, aO pa + z * 2, none⟩)) (y_idx (o := z * 2) rfl rfl Try.underlying153 Try.sizeOf89 (oslR .h) ((fl_len prV_len _).trans (by first | omega | (simp only [List.length_set, List.length_take, List.length_drop]; done) | (simp only [List.length_set, List.length_take, List.length_drop]; omega))) (by decide) (by omega) (by omega) (by omega)) rfl) (.p .h (.p (.t (.t .h)) .nil)) ?_
     refine anyS_take (i := 11) rfl (by kernel_rfl) (by kernel_rfl) (by kernel_rfl) (by kernel_rfl) (Yq.of (v := .pointer (some ⟨aB pa, aO pa + z * 2 + 1, none⟩)) (y_fieldAddr (o' := aO pa + z * 2 + 1) rfl Try.underlying89 rfl Try.sizeOf2 (by decide) rfl) rfl) (.p .h (.p (.t (.t .h)) .nil)) ?_
     refine anyS_take (i := 12) rfl (by kernel_rfl) (by kernel_rfl) (by kernel_rfl) (by kernel_rfl) (Yq.of (v := .int .i64 ((((finT (doneC (chkB ((m : Nat) : Int) l1 l2 l3) l3) os z).getD z default).2).toInt)) (y_load1 rfl Try.isAgg2 (rd1 (k := z * 2 + 1) (oslR .h) (fl_get1 (f := 1) prV_len (finT (doneC (chkB ((m : Nat) : Int) l1 l2 l3) l3) os z) z (by first | omega | (simp only [List.length_set, List.length_take, List.length_drop]; done) | (simp only [List.length_set, List.length_take, List.length_drop]; omega)) rfl))) rfl) (.p .h (.p (.t (.t .h)) .nil)) ?_
     refine anyS_take (i := 13) rfl (by kernel_rfl) (by kernel_rfl) (by kernel_rfl) (by kernel_rfl) (Yq.of (v := .int .i64 ((doneC (chkB ((m : Nat) : Int) l1 l2 l3) l3 (((finT (doneC (chkB ((m : Nat) : Int) l1 l2 l3) l3) os z).getD z default).2) (((finT (doneC (chkB ((m : Nat) : Int) l1 l2 l3) l3) os z).getD z default).1)).toInt)) (y_call (args := #[.agg #[.int .i64 ((m : Nat) : Int), .slice a1 n1 c1, .slice a2 n2 c2, .slice a3 n3 c3], .int .i64 ((((finT (doneC (chkB ((m : Nat) : Int) l1 l2 l3) l3) os z).getD z default).1).toInt), .int .i64 ((((finT (doneC (chkB ((m : Nat) : Int) l1 l2 l3) l3) os z).getD z default).2).toInt)]) Try.call180 (ev3 rfl rfl rfl) (fun w hs => gfinish_c ((m : Nat) : Int) a1 a2 a3 n1 c1 n2 c2 n3 c3 l1 l2 l3 (((finT (doneC (chkB ((m : Nat) : Int) l1 l2 l3) l3) os z).getD z default).1) (((finT (doneC (chkB ((m : Nat) : Int) l1 l2 l3) l3) os z).getD z default).2) w hn1 ((oldR hr1) w hs) (by omega) hn2 ((oldR hr2) w hs) (by omega) hn3 ((oldR hr3) w hs) (by omega))) rfl) (.p .h (.p (.t (.t .h)) .nil)) ?_
     refine anyS_take (i := 14) rfl (by kernel_rfl) (by kernel_rfl) (by kernel_rfl) (by kernel_rfl) (Yq.of (v := .pointer (some ⟨aB pa, aO pa + z * 2, none⟩)) (y_idx (o := z * 2) rfl rfl Try.underlying153 Try.sizeOf89 (oslR .h) ((fl_len prV_len _).trans (by first | omega | (simp only [List.length_set, List.length_take, List.length_drop]; done) | (simp only [List.length_set, List.length_take, List.length_drop]; omega))) (by decide) (by omega) (by omega) (by omega)) rfl) (.p .h (.p (.t (.t .h)) .nil)) ?_
     refine anyS_take (i := 15) rfl (by kernel_rfl) (by kernel_rfl) (by kernel_rfl) (by kernel_rfl) (Yq.of (v := .pointer (some ⟨aB pa, aO pa + z * 2 + 1, none⟩)) (y_fieldAddr (o' := aO pa + z * 2 + 1) rfl Try.underlying89 rfl Try.sizeOf2 (by decide) rfl) rfl) (.p .h (.p (.t (.t .h)) .nil)) ?_
     refine anyS_all (rs := [16]) (by kernel_rfl) (by simp) ?_
     intro i hi; obtain rfl := List.mem_singleton.1 hi; clear hi
     refine opS_0 rfl rfl ?_
     refine e_storeO (vs := [.int .i64 ((doneC (chkB ((m : Nat) : Int) l1 l2 l3) l3 (((finT (doneC (chkB ((m : Nat) : Int) l1 l2 l3) l3) os z).getD z default).2) (((finT (doneC (chkB ((m : Nat) : Int) l1 l2 l3) l3) os z).getD z default).1)).toInt)]) (l' := ((finT (doneC (chkB ((m : Nat) : Int) l1 l2 l3) l3) os z).set z ((((finT (doneC (chkB ((m : Nat) : Int) l1 l2 l3) l3) os z).getD z default).1, (doneC (chkB ((m : Nat) : Int) l1 l2 l3) l3 (((finT (doneC (chkB ((m : Nat) : Int) l1 l2 l3) l3) os z).getD z default).2) (((finT (doneC (chkB ((m : Nat) : Int) l1 l2 l3) l3) os z).getD z default).1))) : Pr)).flatMap prV) rfl rfl rfl rfl (Nat.le_of_ble_eq_true rfl) Try.sizeOf2 .h (pr_fit (by omega)) (pr_set (by omega) _ _) ?_
     refine ⟨.inl (by simp), ?_⟩
     refine anyS_done (by kernel_rfl) ?_
     refine blockS_n ?_
     refine thenS_n ?_
     refine wpS_region ?_
     refine s_y (v := .int .i64 ((z : Nat) : Int)) (y_move h21_29) rfl ?_
     refine s_y (v := .int .i64 (((z + 1) : Nat) : Int)) (y_add (a := ((z : Nat) : Int)) (b := 1) rfl rfl (wI (by omega) (by omega) (by omega))) rfl ?_
     refine s_y (v := .int .i64 (((z + 1) : Nat) : Int)) (y_assign rfl) rfl ?_
     refine wpL_nil ?_
     refine thenS_n ?_
     rw [finT_next (doneC (chkB ((m : Nat) : Int) l1 l2 l3) l3) (by omega)]
     exact ⟨_, by omega, ⟨(z + 1), rfl, by omega, rfl, h3_29, h13_29, rfl, .p .h (.p .h (.p .h (.p .h .nil)))⟩⟩
    ·
     have p30 := of_decide_eq_false b30
     refine wpS_exit ?_
     refine thenS_x ?_
     refine thenS_x ?_
     refine blockS_h ?_
     refine thenS_n ?_
     refine wpS_seq ?_
     refine wpS_region ?_
     refine s_y (v := .slice pa os.length pc) (y_move h13_29) rfl ?_
     refine s_y (v := .slice pa os.length pc) (y_assign rfl) rfl ?_
     refine s_y (v := .int .i64 0) (y_assign rfl) rfl ?_
     refine wpL_nil ?_
     refine thenS_n ?_
     refine wpS_ret ?_
     have ho : OutI (doneC (chkB ((m : Nat) : Int) l1 l2 l3) l2) (doneC (chkB ((m : Nat) : Int) l1 l2 l3) l3) (org (chkB ((m : Nat) : Int) l1 l2 l3) ((m : Nat) : Int) l1 li) (finT (doneC (chkB ((m : Nat) : Int) l1 l2 l3) l3) os z) := key_out (al := al) (by assumption) (by assumption) (by assumption) (by omega) hal (by omega)
     have hz : (finT (doneC (chkB ((m : Nat) : Int) l1 l2 l3) l3) os z).length ≤ 1000 := by rw [finT_len]; omega
     refine fin2 (M := [osl pa pc os.length 2 89 ((finT (doneC (chkB ((m : Nat) : Int) l1 l2 l3) l3) os z).flatMap prV)]) (.inr rfl) (.p .h .nil) Try.results139 (rvT (v := .slice pa os.length pc) rfl) (rvT (v := .int .i64 0) rfl) ?_
     exact fun w' hs => ⟨((pa, pc), finT (doneC (chkB ((m : Nat) : Int) l1 l2 l3) l3) os z), by simp only [slV, finT_len], by simp only [slR, finT_len]; exact hs, ho, hz⟩
   ·
    have b31 : sm = true := by simpa using b27
    refine wpS_skip ?_
    refine thenS_n ?_
    refine wpS_seq ?_
    refine wpS_region ?_
    refine s_y (v := .bool false) (y_assign rfl) rfl ?_
    refine wpL_nil ?_
    refine thenS_n ?_
    refine wpS_seq ?_
    refine wpS_region ?_
    refine s_y (v := .int .i64 0) (y_assign rfl) rfl ?_
    refine wpL_nil ?_
    refine thenS_n ?_
    refine wpS_seq ?_
    refine wpS_seq ?_
    refine wpS_region ?_
    refine s_y (v := .int .i64 0) (y_assign rfl) rfl ?_
    refine wpL_nil ?_
    refine thenS_n ?_
    refine wpS_block ?_
    refine wpS_loop (fun mez ds σ L => ∃ i2 : Nat, ∃ bg : Bool, ∃ vv : Int64, mez = al.length - i2 ∧ (i2 ≤ al.length) ∧ (FoI (doneC (chkB ((m : Nat) : Int) l1 l2 l3) l2) ky al i2 bg vv) ∧ ds = [] ∧ σ 3 = .pointer (some ⟨b_1, 0, none⟩) ∧ σ 9 = .slice xa al.length xc ∧ σ 13 = .slice pa os.length pc ∧ σ 15 = .int .i64 ky.toInt ∧ σ 18 = .bool bg ∧ σ 19 = .int .i64 vv.toInt ∧ σ 20 = .int .i64 ((i2 : Nat) : Int) ∧ Ent L [osl pa pc os.length 2 89 (os.flatMap prV), osl xa xc al.length 4 23 (al.flatMap recV), cel b_2 53 [.int .i64 ((R : Nat) : Int), .int .i64 ((m : Nat) : Int), .int .i64 ((S : Nat) : Int), .int .i64 W], cel b_1 84 [.int .i64 ((m : Nat) : Int), .slice a1 n1 c1, .slice a2 n2 c2, .slice a3 n3 c3]]) (m0 := al.length - 0) ⟨0, false, 0, rfl, by omega, (foI_0 _ _ _ _), rfl, h3_18, h9_18, h13_18, h15_18, rfl, rfl, rfl, .p .h (.p .h (.p .h (.p .h .nil)))⟩ ?_
    rintro mez ds σ L ⟨i2, bg, vv, hm_32, hf0_32, hf1_32, rfl, h3_32, h9_32, h13_32, h15_32, h18_32, h19_32, h20_32, hE_32⟩
    refine wpS_ent hE_32 ?_; clear hE_32
    refine wpS_seq ?_
    refine wpS_seq ?_
    refine wpS_region ?_
    refine s_y (v := .int .i64 ((i2 : Nat) : Int)) (y_move h20_32) rfl ?_
    refine s_y (v := .slice xa al.length xc) (y_move h9_32) rfl ?_
    refine s_y (v := .int .i64 ((al.length : Nat) : Int)) (y_len (ty' := 0) (at_ := #[]) rfl Try.underlying69) rfl ?_
    refine s_y (v := .bool (decide (i2 < al.length))) (y_lss (a := ((i2 : Nat) : Int)) (b := ((al.length : Nat) : Int)) (c := decide (i2 < al.length)) rfl rfl (decide_eq_decide.2 (by omega))) rfl ?_
    refine wpL_nil ?_
    refine thenS_n ?_
    refine wpS_cond (t := decide (i2 < al.length)) rfl (fun b33 => ?_) (fun b33 => ?_)
    ·
     have p33 := of_decide_eq_true b33
     refine wpS_skip ?_
     refine thenS_n ?_
     refine wpS_seq ?_
     refine wpS_block ?_
     refine wpS_seq ?_
     refine wpS_seq ?_
     refine wpS_region ?_
     refine s_y (v := .slice xa al.length xc) (y_move h9_32) rfl ?_
     refine s_y (v := .int .i64 ((i2 : Nat) : Int)) (y_move h20_32) rfl ?_
     refine s_y (v := .pointer (some ⟨aB xa, aO xa + i2 * 4, none⟩)) (y_idx (o := i2 * 4) rfl rfl Try.underlying69 Try.sizeOf23 (oslR (.t .h)) (fl_len recV_len _) (by decide) (by omega) (by omega) (by omega)) rfl ?_
     refine s_y (v := .pointer (some ⟨aB xa, aO xa + i2 * 4 + 1, none⟩)) (y_fieldAddr (o' := aO xa + i2 * 4 + 1) rfl Try.underlying23 rfl Try.sizeOf2 (by decide) rfl) rfl ?_
     refine s_y (v := .int .i64 (((al.getD i2 default).key).toInt)) (y_load1 rfl Try.isAgg2 (rd1 (k := i2 * 4 + 1) (oslR (.t .h)) (fl_get1 (f := 1) recV_len al i2 (by first | omega | (simp only [List.length_set, List.length_take, List.length_drop]; done) | (simp only [List.length_set, List.length_take, List.length_drop]; omega)) rfl))) rfl ?_
     refine s_y (v := .int .i64 ky.toInt) (y_move h15_32) rfl ?_
     refine s_y (v := .bool (decide (((al.getD i2 default).key) ≠ ky))) (y_neq (a := ((al.getD i2 default).key).toInt) (b := ky.toInt) (c := decide (((al.getD i2 default).key) ≠ ky)) rfl rfl (i_neq _ _)) rfl ?_
     refine wpL_nil ?_
     refine thenS_n ?_
     refine wpS_cond (t := decide (((al.getD i2 default).key) ≠ ky)) rfl (fun b34 => ?_) (fun b34 => ?_)
     ·
      have p34 := of_decide_eq_true b34
      refine wpS_exit ?_
      refine thenS_x ?_
      refine blockS_h ?_
      refine thenS_n ?_
      refine wpS_region ?_
      refine s_y (v := .int .i64 ((i2 : Nat) : Int)) (y_move h20_32) rfl ?_
      refine s_y (v := .int .i64 (((i2 + 1) : Nat) : Int)) (y_add (a := ((i2 : Nat) : Int)) (b := 1) rfl rfl (wI (by omega) (by omega) (by omega))) rfl ?_
      refine s_y (v := .int .i64 (((i2 + 1) : Nat) : Int)) (y_assign rfl) rfl ?_
      refine wpL_nil ?_
      refine thenS_n ?_
      exact ⟨_, by omega, ⟨(i2 + 1), bg, vv, rfl, by omega, (by first | exact foI_skip (by assumption) (by omega) (by assumption) | exact foI_on (by assumption) (by assumption) (by omega) (Decidable.not_not.1 (by assumption)) hdead | exact foI_new (by assumption) (by assumption) (by omega) (Decidable.not_not.1 (by assumption)) hdead), rfl, h3_32, h9_32, h13_32, h15_32, h18_32, h19_32, rfl, .p .h (.p .h (.p .h (.p .h .nil)))⟩⟩
     ·
      have p34 := of_decide_eq_false b34
      refine wpS_skip ?_
      refine thenS_n ?_
      refine wpS_seq ?_
      refine wpS_region ?_
      refine s_y (v := .bool bg) (y_move h18_32) rfl ?_
      refine wpL_nil ?_
      refine thenS_n ?_
      refine wpS_cond (t := bg) rfl (fun b35 => ?_) (fun b35 => ?_)
      ·
       refine wpS_lex (by kernel_rfl) (by kernel_rfl) ?_
       refine x_y (v := .agg #[.int .i64 ((m : Nat) : Int), .slice a1 n1 c1, .slice a2 n2 c2, .slice a3 n3 c3]) (y_loadN h3_32 Try.isAgg84 Try.sizeOf84 (ownN (.t (.t (.t .h))) rfl)) rfl ?_
       refine x_y (v := .int .i64 vv.toInt) (y_move h19_32) rfl ?_
       refine x_y (v := .slice xa al.length xc) (y_move h9_32) rfl ?_
       refine x_y (v := .int .i64 ((i2 : Nat) : Int)) (y_move h20_32) rfl ?_
       refine x_y (v := .pointer (some ⟨aB xa, aO xa + i2 * 4, none⟩)) (y_idx (o := i2 * 4) rfl rfl Try.underlying69 Try.sizeOf23 (oslR (.t .h)) (fl_len recV_len _) (by decide) (by omega) (by omega) (by omega)) rfl ?_
       refine x_y (v := .pointer (some ⟨aB xa, aO xa + i2 * 4 + 2, none⟩)) (y_fieldAddr (o' := aO xa + i2 * 4 + 2) rfl Try.underlying23 rfl Try.sizeOf2 (by decide) rfl) rfl ?_
       refine x_y (v := .int .i64 (((al.getD i2 default).value).toInt)) (y_load1 rfl Try.isAgg2 (rd1 (k := i2 * 4 + 2) (oslR (.t .h)) (fl_get1 (f := 2) recV_len al i2 (by first | omega | (simp only [List.length_set, List.length_take, List.length_drop]; done) | (simp only [List.length_set, List.length_take, List.length_drop]; omega)) rfl))) rfl ?_
       refine x_y (v := .int .i64 ((doneC (chkB ((m : Nat) : Int) l1 l2 l3) l2 vv ((al.getD i2 default).value)).toInt)) (y_call (args := #[.agg #[.int .i64 ((m : Nat) : Int), .slice a1 n1 c1, .slice a2 n2 c2, .slice a3 n3 c3], .int .i64 vv.toInt, .int .i64 (((al.getD i2 default).value).toInt)]) Try.call179 (ev3 rfl rfl rfl) (fun w hs => gfold_c ((m : Nat) : Int) a1 a2 a3 n1 c1 n2 c2 n3 c3 l1 l2 l3 vv ((al.getD i2 default).value) w hn1 ((oldR hr1) w hs) (by omega) hn2 ((oldR hr2) w hs) (by omega) hn3 ((oldR hr3) w hs) (by omega))) rfl ?_
       refine x_y (v := .int .i64 ((doneC (chkB ((m : Nat) : Int) l1 l2 l3) l2 vv ((al.getD i2 default).value)).toInt)) (y_assign rfl) rfl ?_
       refine x_nil ?_
       refine blockS_n ?_
       refine thenS_n ?_
       refine wpS_region ?_
       refine s_y (v := .int .i64 ((i2 : Nat) : Int)) (y_move h20_32) rfl ?_
       refine s_y (v := .int .i64 (((i2 + 1) : Nat) : Int)) (y_add (a := ((i2 : Nat) : Int)) (b := 1) rfl rfl (wI (by omega) (by omega) (by omega))) rfl ?_
       refine s_y (v := .int .i64 (((i2 + 1) : Nat) : Int)) (y_assign rfl) rfl ?_
       refine wpL_nil ?_
       refine thenS_n ?_
       exact ⟨_, by omega, ⟨(i2 + 1), bg, (doneC (chkB ((m : Nat) : Int) l1 l2 l3) l2 vv ((al.getD i2 default).value)), rfl, by omega, (by first | exact foI_skip (by assumption) (by omega) (by assumption) | exact foI_on (by assumption) (by assumption) (by omega) (Decidable.not_not.1 (by assumption)) hdead | exact foI_new (by assumption) (by assumption) (by omega) (Decidable.not_not.1 (by assumption)) hdead), rfl, h3_32, h9_32, h13_32, h15_32, h18_32, rfl, rfl, .p .h (.p .h (.p .h (.p .h .nil)))⟩⟩
      ·
       refine wpS_lex (by kernel_rfl) (by kernel_rfl) ?_
       refine x_y (v := .slice xa al.length xc) (y_move h9_32) rfl ?_
       refine x_y (v := .int .i64 ((i2 : Nat) : Int)) (y_move h20_32) rfl ?_
       refine x_y (v := .pointer (some ⟨aB xa, aO xa + i2 * 4, none⟩)) (y_idx (o := i2 * 4) rfl rfl Try.underlying69 Try.sizeOf23 (oslR (.t .h)) (fl_len recV_len _) (by decide) (by omega) (by omega) (by omega)) rfl ?_
       refine x_y (v := .pointer (some ⟨aB xa, aO xa + i2 * 4 + 2, none⟩)) (y_fieldAddr (o' := aO xa + i2 * 4 + 2) rfl Try.underlying23 rfl Try.sizeOf2 (by decide) rfl) rfl ?_
       refine x_y (v := .int .i64 (((al.getD i2 default).value).toInt)) (y_load1 rfl Try.isAgg2 (rd1 (k := i2 * 4 + 2) (oslR (.t .h)) (fl_get1 (f := 2) recV_len al i2 (by first | omega | (simp only [List.length_set, List.length_take, List.length_drop]; done) | (simp only [List.length_set, List.length_take, List.length_drop]; omega)) rfl))) rfl ?_
       refine x_y (v := .bool true) (y_assign rfl) rfl ?_
       refine x_y (v := .int .i64 (((al.getD i2 default).value).toInt)) (y_assign rfl) rfl ?_
       refine x_nil ?_
       refine blockS_n ?_
       refine thenS_n ?_
       refine wpS_region ?_
       refine s_y (v := .int .i64 ((i2 : Nat) : Int)) (y_move h20_32) rfl ?_
       refine s_y (v := .int .i64 (((i2 + 1) : Nat) : Int)) (y_add (a := ((i2 : Nat) : Int)) (b := 1) rfl rfl (wI (by omega) (by omega) (by omega))) rfl ?_
       refine s_y (v := .int .i64 (((i2 + 1) : Nat) : Int)) (y_assign rfl) rfl ?_
       refine wpL_nil ?_
       refine thenS_n ?_
       exact ⟨_, by omega, ⟨(i2 + 1), true, (al.getD i2 default).value, rfl, by omega, (by first | exact foI_skip (by assumption) (by omega) (by assumption) | exact foI_on (by assumption) (by assumption) (by omega) (Decidable.not_not.1 (by assumption)) hdead | exact foI_new (by assumption) (by assumption) (by omega) (Decidable.not_not.1 (by assumption)) hdead), rfl, h3_32, h9_32, h13_32, h15_32, rfl, rfl, rfl, .p .h (.p .h (.p .h (.p .h .nil)))⟩⟩
    ·
     have p33 := of_decide_eq_false b33
     refine wpS_exit ?_
     refine thenS_x ?_
     refine thenS_x ?_
     refine blockS_h ?_
     refine thenS_n ?_
     refine wpS_region ?_
     refine s_y (v := .slice pa os.length pc) (y_move h13_32) rfl ?_
     refine s_y (v := .int .i64 ky.toInt) (y_move h15_32) rfl ?_
     refine s_y (v := .int .i64 vv.toInt) (y_move h19_32) rfl ?_
     refine s_y (v := .agg #[.int .i64 ky.toInt, .int .i64 vv.toInt]) (y_buildL (m := [(0, .int .i64 ky.toInt), (1, .int .i64 vv.toInt)]) (vs := #[.int .i64 ky.toInt, .int .i64 vv.toInt]) (evc rfl (evc rfl evn)) (fun w => by kernel_rfl)) rfl ?_
     refine s_e rfl ?_
     refine e_bsliceL (e := 89) (m := [(0, .agg #[.int .i64 ky.toInt, .int .i64 vv.toInt])]) (l := [.int .i64 ky.toInt, .int .i64 vv.toInt]) (evc rfl evn) (fun w => by kernel_rfl) ?_
     intro b_36
     refine s_e rfl ?_
     refine e_appendL (enc := prV) (xs := (os : List Pr)) (ns := ([((ky, vv) : Pr)] : List Pr)) (zs := (os ++ [((ky, vv) : Pr)])) (bytes := 16) prV_len prV_one Try.underlying153 (i := Try.t89) rfl rfl rfl rfl rfl (by decide) rfl rfl (by first | rfl | omega) (by first | rfl | omega) (.t .h) (fun w hs => celR .h w hs) (by first | rfl | simp) (by (try simp only [List.length_append, List.length_cons, List.length_nil] at *); omega) (by (try simp only [List.length_append, List.length_cons, List.length_nil] at *); omega) ?_
     intro a_37 c_38
     refine s_y (v := .slice a_37 ((os ++ [((ky, vv) : Pr)]).length) c_38) (y_assign rfl) rfl ?_
     refine wpL_nil ?_
     refine blockS_n ?_
     refine thenS_n ?_
     have hkn := key_next hKI (by assumption) (by assumption) (by omega) (by omega) (show FoI (doneC (chkB ((m : Nat) : Int) l1 l2 l3) l2) ky al i2 bg vv by assumption) (by omega) hdead
     exact ⟨_, by omega, ⟨(os ++ [((ky, vv) : Pr)]), a_37, c_38, rfl, hkn.1, (by rw [List.length_append, List.length_singleton]; omega), rfl, h3_32, h9_32, rfl, .p .h (.p (.t .h) (.p (.t .h) (.p (.t .h) .nil)))⟩⟩
theorem pspec_ok (pre : List Value) (p0 p1 p2 p3 : Int) (ia : Option Addr) (inn ic : Nat) (lj : List Pr) (m : Nat) (k0 : Int) (a1 a2 a3 : Option Addr) (n1 c1 n2 c2 n3 c3 : Nat) (l1 l2 l3 : List Opc) (w : World) (hpre : pre.length = 33) (hpo : pre.all Value.oneCell' = true) (hmm : 1 + u64of p1 % 2 = m) (hn1 : l1.length = n1) (hr1 : Rds w a1 (l1.flatMap opcV)) (hb1 : n1 ≤ 9223372036854775807) (hn2 : l2.length = n2) (hr2 : Rds w a2 (l2.flatMap opcV)) (hb2 : n2 ≤ 9223372036854775807) (hn3 : l3.length = n3) (hr3 : Rds w a3 (l3.flatMap opcV)) (hb3 : n3 ≤ 9223372036854775807) (hni : lj.length = inn) (hri : Rds w ia (lj.flatMap prV)) (hbi : inn ≤ 9223372036854775807) (hci : inn ≤ ic)  (hck : (chkB ((m : Nat) : Int) l1 l2 l3) = true) : Pure Try.prog 38 #[.agg (pj pre [.int .i64 k0, .slice a1 n1 c1, .slice a2 n2 c2, .slice a3 n3 c3, .int .i64 p0, .int .i64 p1, .int .i64 p2, .int .i64 p3, .slice ia inn ic]).toArray] w (.bool true) := by
 refine calls_S (n := 43) (σ0 := (upd fr0 0 (.agg (pj pre [.int .i64 k0, .slice a1 n1 c1, .slice a2 n2 c2, .slice a3 n3 c3, .int .i64 p0, .int .i64 p1, .int .i64 p2, .int .i64 p3, .slice ia inn ic]).toArray))) (D := []) (A := []) Try.func38 rfl Try.ntmps38 rfl (a1_fr _) (SH.start w) ?_
 have hq1 := part_len (chk_bd hck).2.2.1
 have hq2 := part_len (chk_bd hck).2.2.2.1
 have hq3 := part_len (chk_bd hck).2.2.2.2
 refine wpS_seq ?_
 refine wpS_region ?_
 refine s_e rfl ?_
 refine e_box (v := .agg (pj pre [.int .i64 k0, .slice a1 n1 c1, .slice a2 n2 c2, .slice a3 n3 c3, .int .i64 p0, .int .i64 p1, .int .i64 p2, .int .i64 p3, .slice ia inn ic]).toArray) (l := (pj pre [.int .i64 k0, .slice a1 n1 c1, .slice a2 n2 c2, .slice a3 n3 c3, .int .i64 p0, .int .i64 p1, .int .i64 p2, .int .i64 p3, .slice ia inn ic])) rfl rfl ?_
 intro b_1
 refine s_y (v := .bool false) (y_assign rfl) rfl ?_
 refine wpL_nil ?_
 refine thenS_n ?_
 refine wpS_seq ?_
 refine wpS_region ?_
 refine s_y (v := .agg (pj pre [.int .i64 k0, .slice a1 n1 c1, .slice a2 n2 c2, .slice a3 n3 c3, .int .i64 p0, .int .i64 p1, .int .i64 p2, .int .i64 p3, .slice ia inn ic]).toArray) (y_loadW (vs := (pj pre [.int .i64 k0, .slice a1 n1 c1, .slice a2 n2 c2, .slice a3 n3 c3, .int .i64 p0, .int .i64 p1, .int .i64 p2, .int .i64 p3, .slice ia inn ic])) rfl Try.isAgg155 Try.sizeOf155 (by first | rfl | exact pre_len hpre rfl) (fun w hs => ownN .h (by simp only [List.drop_zero]; exact List.take_length) w hs)) rfl ?_
 refine s_e rfl ?_
 refine e_call (f := 134) (args := #[.agg (pj pre [.int .i64 k0, .slice a1 n1 c1, .slice a2 n2 c2, .slice a3 n3 c3, .int .i64 p0, .int .i64 p1, .int .i64 p2, .int .i64 p3, .slice ia inn ic]).toArray]) (X := ((Nat × Nat × Nat) × (Option Addr × Nat) × List Pr)) (A := []) (M := [cel b_1 155 (pj pre [.int .i64 k0, .slice a1 n1 c1, .slice a2 n2 c2, .slice a3 n3 c3, .int .i64 p0, .int .i64 p1, .int .i64 p2, .int .i64 p3, .slice ia inn ic])]) (V := fun x => .agg (pj pre [.int .i64 ((m : Nat) : Int), .slice a1 n1 c1, .slice a2 n2 c2, .slice a3 n3 c3, .int .i64 ((x.1.1 : Nat) : Int), .int .i64 ((m : Nat) : Int), .int .i64 ((x.1.2.1 : Nat) : Int), .int .i64 ((x.1.2.2 : Nat) : Int), .slice x.2.1.1 x.1.1 x.2.1.2]).toArray) (A' := fun x => [osl x.2.1.1 x.2.1.2 x.1.1 2 89 (x.2.2.flatMap prV)]) (C := fun x => ok ⟨((x.1.1 : Nat) : Int), ((m : Nat) : Int), ((x.1.2.1 : Nat) : Int), ((x.1.2.2 : Nat) : Int)⟩ = true ∧ x.1.1 ≤ 6 ∧ x.2.2.length = x.1.1) Try.call134 (ev1 rfl) (.p .h .nil) (fun w hs => jright_ok pre p0 p1 p2 p3 ia inn ic lj m k0 a1 a2 a3 n1 c1 n2 c2 n3 c3 l1 l2 l3 w hpre hpo hmm hn1 (oldR hr1 w hs) hb1 hn2 (oldR hr2 w hs) hb2 hn3 (oldR hr3 w hs) hb3 hni (oldR hri w hs) hbi hci hck) ?_
 rintro ⟨⟨R, S, Wn⟩, ⟨ga, gc⟩, li⟩ ⟨hok, hR6, hll⟩
 replace hok : ok ⟨((R : Nat) : Int), ((m : Nat) : Int), ((S : Nat) : Int), ((Wn : Nat) : Int)⟩ = true := hok
 replace hR6 : R ≤ 6 := hR6
 replace hll : li.length = R := hll
 obtain ⟨nb, K, hj⟩ := jp_of hok
 obtain ⟨hjok, hjb, hjs, hK5, ⟨hR1, hR2⟩, ⟨hm1, hm2⟩, ⟨hS1, hS2⟩, hnm, hrs, hrs2, ⟨hnb1, hnb2⟩⟩ := hj
 have hj : JP R m S ((Wn : Nat) : Int) nb K := ⟨hjok, hjb, hjs, hK5, ⟨hR1, hR2⟩, ⟨hm1, hm2⟩, ⟨hS1, hS2⟩, hnm, hrs, hrs2, ⟨hnb1, hnb2⟩⟩
 have hp2 : 2 ^ K ≤ 32 := Nat.pow_le_pow_right (n := 2) (by decide) hK5
 have hp1 := Nat.two_pow_pos K
 refine s_e0 ?_
 refine e_storeW (vs := (pj pre [.int .i64 ((m : Nat) : Int), .slice a1 n1 c1, .slice a2 n2 c2, .slice a3 n3 c3, .int .i64 ((R : Nat) : Int), .int .i64 ((m : Nat) : Int), .int .i64 ((S : Nat) : Int), .int .i64 ((Wn : Nat) : Int), .slice ga R gc])) rfl rfl rfl (pre_one hpo rfl) Try.sizeOf155 (by first | rfl | exact pre_len hpre rfl) (.t .h) (by first | rfl | exact pre_len hpre rfl) ?_
 refine wpL_nil ?_
 refine thenS_n ?_
 refine wpS_seq ?_
 refine wpS_region ?_
 refine s_y (v := .pointer (some ⟨b_1, 33, none⟩)) (y_fieldAddr (o' := 33) rfl Try.underlying155 rfl Try.sizeOf84 (by decide) rfl) rfl ?_
 refine s_y (v := .agg #[.int .i64 ((m : Nat) : Int), .slice a1 n1 c1, .slice a2 n2 c2, .slice a3 n3 c3]) (y_loadN rfl Try.isAgg84 Try.sizeOf84 (ownN .h (pre_getN 0 hpre rfl))) rfl ?_
 refine s_y (v := .pointer (some ⟨b_1, 37, none⟩)) (y_fieldAddr (o' := 37) rfl Try.underlying155 rfl Try.sizeOf53 (by decide) rfl) rfl ?_
 refine s_y (v := .agg #[.int .i64 ((R : Nat) : Int), .int .i64 ((m : Nat) : Int), .int .i64 ((S : Nat) : Int), .int .i64 ((Wn : Nat) : Int)]) (y_loadN rfl Try.isAgg53 Try.sizeOf53 (ownN .h (pre_getN 4 hpre rfl))) rfl ?_
 refine s_y (v := .pointer (some ⟨b_1, 41, none⟩)) (y_fieldAddr (o' := 41) rfl Try.underlying155 rfl Try.sizeOf153 (by decide) rfl) rfl ?_
 refine s_y (v := .slice ga R gc) (y_load1 rfl Try.isAgg153 (own1 .h (pre_get 8 hpre rfl))) rfl ?_
 refine s_e rfl ?_
 refine e_call (f := 138) (args := #[.agg #[.int .i64 ((m : Nat) : Int), .slice a1 n1 c1, .slice a2 n2 c2, .slice a3 n3 c3], .agg #[.int .i64 ((R : Nat) : Int), .int .i64 ((m : Nat) : Int), .int .i64 ((S : Nat) : Int), .int .i64 ((Wn : Nat) : Int)], .slice ga R gc]) (X := Option Addr × Nat) (A := []) (M := [cel b_1 155 (pj pre [.int .i64 ((m : Nat) : Int), .slice a1 n1 c1, .slice a2 n2 c2, .slice a3 n3 c3, .int .i64 ((R : Nat) : Int), .int .i64 ((m : Nat) : Int), .int .i64 ((S : Nat) : Int), .int .i64 ((Wn : Nat) : Int), .slice ga R gc]), osl ga gc R 2 89 (li.flatMap prV)]) (V := fun x => .tuple #[slV (runD (chkB ((m : Nat) : Int) l1 l2 l3) l2 l3 K (mpD (chkB ((m : Nat) : Int) l1 l2 l3) ((m : Nat) : Int) l1 S m li nb (2 ^ K))) x, .int .i64 0]) (A' := fun x => [slR prV 2 89 (runD (chkB ((m : Nat) : Int) l1 l2 l3) l2 l3 K (mpD (chkB ((m : Nat) : Int) l1 l2 l3) ((m : Nat) : Int) l1 S m li nb (2 ^ K))) x]) (C := fun _ => True) Try.call138 (ev3 rfl rfl rfl) (.p .h (.p .h .nil)) (fun w hs => runP_c a1 a2 a3 n1 c1 n2 c2 n3 c3 l1 l2 l3 R m S ((Wn : Nat) : Int) nb K ga gc li w hj hn1 ((oldR hr1) w hs) (by omega) hn2 ((oldR hr2) w hs) (by omega) hn3 ((oldR hr3) w hs) (by omega) hck (by first | rfl | (simp only [List.length_set]; done) | omega) (oslR (.t .h) w hs)) ?_
 rintro ⟨a_3, c_4⟩ -
 generalize hdR5 : (runD (chkB ((m : Nat) : Int) l1 l2 l3) l2 l3 K (mpD (chkB ((m : Nat) : Int) l1 l2 l3) ((m : Nat) : Int) l1 S m li nb (2 ^ K))) = dR5
 have odR5 := jp_out hj hck (by first | rfl | (simp only [List.length_set]; done) | omega)
 have ldR5 := jp_len (li := li) hj hck
 rw [hdR5] at odR5 ldR5
 refine s_y (v := .tuple #[.slice a_3 dR5.length c_4, .int .i64 0]) (y_move rfl) rfl ?_
 refine s_y (v := .slice a_3 dR5.length c_4) (y_extract rfl rfl) rfl ?_
 refine s_y (v := .int .i64 0) (y_extract rfl rfl) rfl ?_
 refine s_y (v := .slice a_3 dR5.length c_4) (y_assign rfl) rfl ?_
 refine s_y (v := .int .i64 0) (y_assign rfl) rfl ?_
 refine wpL_nil ?_
 refine thenS_n ?_
 refine wpS_seq ?_
 refine wpS_region ?_
 refine s_y (v := .pointer (some ⟨b_1, 33, none⟩)) (y_fieldAddr (o' := 33) rfl Try.underlying155 rfl Try.sizeOf84 (by decide) rfl) rfl ?_
 refine s_y (v := .agg #[.int .i64 ((m : Nat) : Int), .slice a1 n1 c1, .slice a2 n2 c2, .slice a3 n3 c3]) (y_loadN rfl Try.isAgg84 Try.sizeOf84 (ownN (.t .h) (pre_getN 0 hpre rfl))) rfl ?_
 refine s_y (v := .pointer (some ⟨b_1, 37, none⟩)) (y_fieldAddr (o' := 37) rfl Try.underlying155 rfl Try.sizeOf53 (by decide) rfl) rfl ?_
 refine s_y (v := .agg #[.int .i64 ((R : Nat) : Int), .int .i64 ((m : Nat) : Int), .int .i64 ((S : Nat) : Int), .int .i64 ((Wn : Nat) : Int)]) (y_loadN rfl Try.isAgg53 Try.sizeOf53 (ownN (.t .h) (pre_getN 4 hpre rfl))) rfl ?_
 refine s_y (v := .pointer (some ⟨b_1, 41, none⟩)) (y_fieldAddr (o' := 41) rfl Try.underlying155 rfl Try.sizeOf153 (by decide) rfl) rfl ?_
 refine s_y (v := .slice ga R gc) (y_load1 rfl Try.isAgg153 (own1 (.t .h) (pre_get 8 hpre rfl))) rfl ?_
 refine s_e rfl ?_
 refine e_call (f := 139) (args := #[.agg #[.int .i64 ((m : Nat) : Int), .slice a1 n1 c1, .slice a2 n2 c2, .slice a3 n3 c3], .agg #[.int .i64 ((R : Nat) : Int), .int .i64 ((m : Nat) : Int), .int .i64 ((S : Nat) : Int), .int .i64 ((Wn : Nat) : Int)], .slice ga R gc]) (X := (Option Addr × Nat) × List Pr) (A := []) (M := [osl a_3 c_4 dR5.length 2 89 (dR5.flatMap prV), cel b_1 155 (pj pre [.int .i64 ((m : Nat) : Int), .slice a1 n1 c1, .slice a2 n2 c2, .slice a3 n3 c3, .int .i64 ((R : Nat) : Int), .int .i64 ((m : Nat) : Int), .int .i64 ((S : Nat) : Int), .int .i64 ((Wn : Nat) : Int), .slice ga R gc]), osl ga gc R 2 89 (li.flatMap prV)]) (V := fun x => .tuple #[slV x.2 x.1, .int .i64 0]) (A' := fun x => [slR prV 2 89 x.2 x.1]) (C := fun x => OutI (doneC (chkB ((m : Nat) : Int) l1 l2 l3) l2) (doneC (chkB ((m : Nat) : Int) l1 l2 l3) l3) (org (chkB ((m : Nat) : Int) l1 l2 l3) ((m : Nat) : Int) l1 li) x.2 ∧ x.2.length ≤ 1000) Try.call139 (ev3 rfl rfl rfl) (.p .h (.p .h (.p .h .nil))) (fun w hs => rrunP_c a1 a2 a3 n1 c1 n2 c2 n3 c3 l1 l2 l3 R m S ((Wn : Nat) : Int) nb K ga gc li w hj hn1 ((oldR hr1) w hs) (by omega) hn2 ((oldR hr2) w hs) (by omega) hn3 ((oldR hr3) w hs) (by omega) hck (by first | rfl | (simp only [List.length_set]; done) | omega) (oslR (.t (.t .h)) w hs)) ?_
 rintro ⟨⟨a_6, c_7⟩, dR8⟩ ⟨odR8, ldR8⟩
 replace ldR8 : dR8.length ≤ 1000 := ldR8
 refine s_y (v := .tuple #[.slice a_6 dR8.length c_7, .int .i64 0]) (y_move rfl) rfl ?_
 refine s_y (v := .slice a_6 dR8.length c_7) (y_extract rfl rfl) rfl ?_
 refine s_y (v := .int .i64 0) (y_extract rfl rfl) rfl ?_
 refine s_y (v := .slice a_6 dR8.length c_7) (y_assign rfl) rfl ?_
 refine s_y (v := .int .i64 0) (y_assign rfl) rfl ?_
 refine wpL_nil ?_
 refine thenS_n ?_
 refine wpS_seq ?_
 refine wpS_region ?_
 refine s_y (v := .bool true) (y_call (args := #[]) Try.call137 ev0 (fun w hs => awake16_c w)) rfl ?_
 refine s_y (v := .bool true) (y_move rfl) rfl ?_
 refine s_gy (y_move rfl) rfl rfl rfl rfl rfl rfl ?_
 refine s_gy (y_eql (a := 0) (b := 0) (c := true) rfl rfl (by decide)) rfl rfl rfl rfl rfl rfl ?_
 refine s_y (v := .bool true) (y_pickT rfl rfl rfl) rfl ?_
 refine s_y (v := .bool true) (y_move rfl) rfl ?_
 refine s_gy (y_move rfl) rfl rfl rfl rfl rfl rfl ?_
 refine s_gy (y_eql (a := 0) (b := 0) (c := true) rfl rfl (by decide)) rfl rfl rfl rfl rfl rfl ?_
 refine s_y (v := .bool true) (y_pickT rfl rfl rfl) rfl ?_
 refine s_y (v := .bool true) (y_move rfl) rfl ?_
 refine s_gy (y_move rfl) rfl rfl rfl rfl rfl rfl ?_
 refine s_gy (y_move rfl) rfl rfl rfl rfl rfl rfl ?_
 refine s_gy (y_call (args := #[.slice a_3 dR5.length c_4, .slice a_6 dR8.length c_7]) (v := .bool (decide (dR5 = dR8))) Try.call140 (ev2 rfl rfl) (fun w hs => plainP_c a_3 a_6 dR5.length dR8.length c_4 c_7 dR5 dR8 w rfl (oslR (.t .h) w hs) (by omega) rfl (oslR .h w hs) (by omega))) rfl rfl rfl rfl rfl rfl ?_
 refine s_y (v := .bool (decide (dR5 = dR8))) (y_pickT rfl rfl rfl) rfl ?_
 refine s_y (v := .bool (decide (dR5 = dR8))) (y_assign rfl) rfl ?_
 refine wpL_nil ?_
 refine thenS_n ?_
 refine wpS_ret ?_
 refine fin1 (v := .bool (decide (dR5 = dR8))) (.inr rfl) (.nil) Try.results38 rfl ?_
 exact fun w' hs => ⟨congrArg (fun b => Ending.returned (Value.bool b)) (show (decide (dR5 = dR8)) = true from (decide_eq_true (outI_unique odR5 odR8 (fun k => rfl)))), hs⟩
theorem pspec_no (pre : List Value) (p0 p1 p2 p3 : Int) (ia : Option Addr) (inn ic : Nat) (lj : List Pr) (m : Nat) (k0 : Int) (a1 a2 a3 : Option Addr) (n1 c1 n2 c2 n3 c3 : Nat) (l1 l2 l3 : List Opc) (w : World) (hpre : pre.length = 33) (hpo : pre.all Value.oneCell' = true) (hmm : 1 + u64of p1 % 2 = m) (hn1 : l1.length = n1) (hr1 : Rds w a1 (l1.flatMap opcV)) (hb1 : n1 ≤ 9223372036854775807) (hn2 : l2.length = n2) (hr2 : Rds w a2 (l2.flatMap opcV)) (hb2 : n2 ≤ 9223372036854775807) (hn3 : l3.length = n3) (hr3 : Rds w a3 (l3.flatMap opcV)) (hb3 : n3 ≤ 9223372036854775807) (hni : lj.length = inn) (hri : Rds w ia (lj.flatMap prV)) (hbi : inn ≤ 9223372036854775807) (hci : inn ≤ ic)  (hck0 : (chkB ((m : Nat) : Int) l1 l2 l3) = false) : Pure Try.prog 38 #[.agg (pj pre [.int .i64 k0, .slice a1 n1 c1, .slice a2 n2 c2, .slice a3 n3 c3, .int .i64 p0, .int .i64 p1, .int .i64 p2, .int .i64 p3, .slice ia inn ic]).toArray] w (.bool true) := by
 refine calls_S (n := 43) (σ0 := (upd fr0 0 (.agg (pj pre [.int .i64 k0, .slice a1 n1 c1, .slice a2 n2 c2, .slice a3 n3 c3, .int .i64 p0, .int .i64 p1, .int .i64 p2, .int .i64 p3, .slice ia inn ic]).toArray))) (D := []) (A := []) Try.func38 rfl Try.ntmps38 rfl (a1_fr _) (SH.start w) ?_
 refine wpS_seq ?_
 refine wpS_region ?_
 refine s_e rfl ?_
 refine e_box (v := .agg (pj pre [.int .i64 k0, .slice a1 n1 c1, .slice a2 n2 c2, .slice a3 n3 c3, .int .i64 p0, .int .i64 p1, .int .i64 p2, .int .i64 p3, .slice ia inn ic]).toArray) (l := (pj pre [.int .i64 k0, .slice a1 n1 c1, .slice a2 n2 c2, .slice a3 n3 c3, .int .i64 p0, .int .i64 p1, .int .i64 p2, .int .i64 p3, .slice ia inn ic])) rfl rfl ?_
 intro b_1
 refine s_y (v := .bool false) (y_assign rfl) rfl ?_
 refine wpL_nil ?_
 refine thenS_n ?_
 refine wpS_seq ?_
 refine wpS_region ?_
 refine s_y (v := .agg (pj pre [.int .i64 k0, .slice a1 n1 c1, .slice a2 n2 c2, .slice a3 n3 c3, .int .i64 p0, .int .i64 p1, .int .i64 p2, .int .i64 p3, .slice ia inn ic]).toArray) (y_loadW (vs := (pj pre [.int .i64 k0, .slice a1 n1 c1, .slice a2 n2 c2, .slice a3 n3 c3, .int .i64 p0, .int .i64 p1, .int .i64 p2, .int .i64 p3, .slice ia inn ic])) rfl Try.isAgg155 Try.sizeOf155 (by first | rfl | exact pre_len hpre rfl) (fun w hs => ownN .h (by simp only [List.drop_zero]; exact List.take_length) w hs)) rfl ?_
 refine s_e rfl ?_
 refine e_call (f := 134) (args := #[.agg (pj pre [.int .i64 k0, .slice a1 n1 c1, .slice a2 n2 c2, .slice a3 n3 c3, .int .i64 p0, .int .i64 p1, .int .i64 p2, .int .i64 p3, .slice ia inn ic]).toArray]) (X := ((Nat × Nat × Nat) × (Option Addr × Nat) × List Pr) × ((Option Addr × Nat) × Nat)) (A := []) (M := [cel b_1 155 (pj pre [.int .i64 k0, .slice a1 n1 c1, .slice a2 n2 c2, .slice a3 n3 c3, .int .i64 p0, .int .i64 p1, .int .i64 p2, .int .i64 p3, .slice ia inn ic])]) (V := fun x => .agg (pj pre [.int .i64 ((m : Nat) : Int), .slice x.2.1.1 (m + 1) x.2.1.2, .slice (some ⟨x.2.2, 0, none⟩) 1 1, .slice none 0 0, .int .i64 ((x.1.1.1 : Nat) : Int), .int .i64 ((m : Nat) : Int), .int .i64 ((x.1.1.2.1 : Nat) : Int), .int .i64 ((x.1.1.2.2 : Nat) : Int), .slice x.1.2.1.1 x.1.1.1 x.1.2.1.2]).toArray) (A' := fun x => [osl x.1.2.1.1 x.1.2.1.2 x.1.1.1 2 89 (x.1.2.2.flatMap prV), osl x.2.1.1 x.2.1.2 (m + 1) 6 86 ((smapL m).flatMap opcV), cel x.2.2 86 (sfoldL.flatMap opcV)]) (C := fun x => ok ⟨((x.1.1.1 : Nat) : Int), ((m : Nat) : Int), ((x.1.1.2.1 : Nat) : Int), ((x.1.1.2.2 : Nat) : Int)⟩ = true ∧ x.1.1.1 ≤ 6 ∧ x.1.2.2.length = x.1.1.1) Try.call134 (ev1 rfl) (.p .h .nil) (fun w hs => jright_no pre p0 p1 p2 p3 ia inn ic lj m k0 a1 a2 a3 n1 c1 n2 c2 n3 c3 l1 l2 l3 w hpre hpo hmm hn1 (oldR hr1 w hs) hb1 hn2 (oldR hr2 w hs) hb2 hn3 (oldR hr3 w hs) hb3 hni (oldR hri w hs) hbi hci hck0) ?_
 rintro ⟨⟨⟨R, S, Wn⟩, ⟨ga, gc⟩, li⟩, ⟨⟨sa, sc⟩, sb⟩⟩ ⟨hok, hR6, hll⟩
 replace hok : ok ⟨((R : Nat) : Int), ((m : Nat) : Int), ((S : Nat) : Int), ((Wn : Nat) : Int)⟩ = true := hok
 replace hR6 : R ≤ 6 := hR6
 replace hll : li.length = R := hll
 obtain ⟨nb, K, hj⟩ := jp_of hok
 obtain ⟨hjok, hjb, hjs, hK5, ⟨hR1, hR2⟩, ⟨hm1, hm2⟩, ⟨hS1, hS2⟩, hnm, hrs, hrs2, ⟨hnb1, hnb2⟩⟩ := hj
 have hj : JP R m S ((Wn : Nat) : Int) nb K := ⟨hjok, hjb, hjs, hK5, ⟨hR1, hR2⟩, ⟨hm1, hm2⟩, ⟨hS1, hS2⟩, hnm, hrs, hrs2, ⟨hnb1, hnb2⟩⟩
 have hp2 : 2 ^ K ≤ 32 := Nat.pow_le_pow_right (n := 2) (by decide) hK5
 have hp1 := Nat.two_pow_pos K
 have hck := sums_ok (m := m) (by omega) (by omega)
 have hsmL := smap_len m
 refine s_e0 ?_
 refine e_storeW (vs := (pj pre [.int .i64 ((m : Nat) : Int), .slice sa (m + 1) sc, .slice (some ⟨sb, 0, none⟩) 1 1, .slice none 0 0, .int .i64 ((R : Nat) : Int), .int .i64 ((m : Nat) : Int), .int .i64 ((S : Nat) : Int), .int .i64 ((Wn : Nat) : Int), .slice ga R gc])) rfl rfl rfl (pre_one hpo rfl) Try.sizeOf155 (by first | rfl | exact pre_len hpre rfl) (.t (.t (.t .h))) (by first | rfl | exact pre_len hpre rfl) ?_
 refine wpL_nil ?_
 refine thenS_n ?_
 refine wpS_seq ?_
 refine wpS_region ?_
 refine s_y (v := .pointer (some ⟨b_1, 33, none⟩)) (y_fieldAddr (o' := 33) rfl Try.underlying155 rfl Try.sizeOf84 (by decide) rfl) rfl ?_
 refine s_y (v := .agg #[.int .i64 ((m : Nat) : Int), .slice sa (m + 1) sc, .slice (some ⟨sb, 0, none⟩) 1 1, .slice none 0 0]) (y_loadN rfl Try.isAgg84 Try.sizeOf84 (ownN .h (pre_getN 0 hpre rfl))) rfl ?_
 refine s_y (v := .pointer (some ⟨b_1, 37, none⟩)) (y_fieldAddr (o' := 37) rfl Try.underlying155 rfl Try.sizeOf53 (by decide) rfl) rfl ?_
 refine s_y (v := .agg #[.int .i64 ((R : Nat) : Int), .int .i64 ((m : Nat) : Int), .int .i64 ((S : Nat) : Int), .int .i64 ((Wn : Nat) : Int)]) (y_loadN rfl Try.isAgg53 Try.sizeOf53 (ownN .h (pre_getN 4 hpre rfl))) rfl ?_
 refine s_y (v := .pointer (some ⟨b_1, 41, none⟩)) (y_fieldAddr (o' := 41) rfl Try.underlying155 rfl Try.sizeOf153 (by decide) rfl) rfl ?_
 refine s_y (v := .slice ga R gc) (y_load1 rfl Try.isAgg153 (own1 .h (pre_get 8 hpre rfl))) rfl ?_
 refine s_e rfl ?_
 refine e_call (f := 138) (args := #[.agg #[.int .i64 ((m : Nat) : Int), .slice sa (m + 1) sc, .slice (some ⟨sb, 0, none⟩) 1 1, .slice none 0 0], .agg #[.int .i64 ((R : Nat) : Int), .int .i64 ((m : Nat) : Int), .int .i64 ((S : Nat) : Int), .int .i64 ((Wn : Nat) : Int)], .slice ga R gc]) (X := Option Addr × Nat) (A := []) (M := [cel b_1 155 (pj pre [.int .i64 ((m : Nat) : Int), .slice sa (m + 1) sc, .slice (some ⟨sb, 0, none⟩) 1 1, .slice none 0 0, .int .i64 ((R : Nat) : Int), .int .i64 ((m : Nat) : Int), .int .i64 ((S : Nat) : Int), .int .i64 ((Wn : Nat) : Int), .slice ga R gc]), osl ga gc R 2 89 (li.flatMap prV), osl sa sc (m + 1) 6 86 ((smapL m).flatMap opcV), cel sb 86 [.int .i64 2, .int .i64 0, .int .i64 0, .int .i64 1, .int .i64 0, .int .i64 0]]) (V := fun x => .tuple #[slV (runD (chkB ((m : Nat) : Int) (smapL m) ([(Opc.mk 2 0 0 1 0 0)]) ([])) ([(Opc.mk 2 0 0 1 0 0)]) ([]) K (mpD (chkB ((m : Nat) : Int) (smapL m) ([(Opc.mk 2 0 0 1 0 0)]) ([])) ((m : Nat) : Int) (smapL m) S m li nb (2 ^ K))) x, .int .i64 0]) (A' := fun x => [slR prV 2 89 (runD (chkB ((m : Nat) : Int) (smapL m) ([(Opc.mk 2 0 0 1 0 0)]) ([])) ([(Opc.mk 2 0 0 1 0 0)]) ([]) K (mpD (chkB ((m : Nat) : Int) (smapL m) ([(Opc.mk 2 0 0 1 0 0)]) ([])) ((m : Nat) : Int) (smapL m) S m li nb (2 ^ K))) x]) (C := fun _ => True) Try.call138 (ev3 rfl rfl rfl) (.p .h (.p .h (.p .h (.p .h .nil)))) (fun w hs => runP_c sa (some ⟨sb, 0, none⟩) none (m + 1) sc 1 1 0 0 (smapL m) ([(Opc.mk 2 0 0 1 0 0)]) ([]) R m S ((Wn : Nat) : Int) nb K ga gc li w hj (by first | rfl | (simp only [List.length_set]; done) | omega) (oslR (.t (.t .h)) w hs) (by omega) (by first | rfl | (simp only [List.length_set]; done) | omega) (celR (.t (.t (.t .h))) w hs) (by omega) (by first | rfl | (simp only [List.length_set]; done) | omega) (Rds.nil _ _) (by omega) hck (by first | rfl | (simp only [List.length_set]; done) | omega) (oslR (.t .h) w hs)) ?_
 rintro ⟨a_3, c_4⟩ -
 generalize hdR5 : (runD (chkB ((m : Nat) : Int) (smapL m) ([(Opc.mk 2 0 0 1 0 0)]) ([])) ([(Opc.mk 2 0 0 1 0 0)]) ([]) K (mpD (chkB ((m : Nat) : Int) (smapL m) ([(Opc.mk 2 0 0 1 0 0)]) ([])) ((m : Nat) : Int) (smapL m) S m li nb (2 ^ K))) = dR5
 have odR5 := jp_out hj hck (by first | rfl | (simp only [List.length_set]; done) | omega)
 have ldR5 := jp_len (li := li) hj hck
 rw [hdR5] at odR5 ldR5
 refine s_y (v := .tuple #[.slice a_3 dR5.length c_4, .int .i64 0]) (y_move rfl) rfl ?_
 refine s_y (v := .slice a_3 dR5.length c_4) (y_extract rfl rfl) rfl ?_
 refine s_y (v := .int .i64 0) (y_extract rfl rfl) rfl ?_
 refine s_y (v := .slice a_3 dR5.length c_4) (y_assign rfl) rfl ?_
 refine s_y (v := .int .i64 0) (y_assign rfl) rfl ?_
 refine wpL_nil ?_
 refine thenS_n ?_
 refine wpS_seq ?_
 refine wpS_region ?_
 refine s_y (v := .pointer (some ⟨b_1, 33, none⟩)) (y_fieldAddr (o' := 33) rfl Try.underlying155 rfl Try.sizeOf84 (by decide) rfl) rfl ?_
 refine s_y (v := .agg #[.int .i64 ((m : Nat) : Int), .slice sa (m + 1) sc, .slice (some ⟨sb, 0, none⟩) 1 1, .slice none 0 0]) (y_loadN rfl Try.isAgg84 Try.sizeOf84 (ownN (.t .h) (pre_getN 0 hpre rfl))) rfl ?_
 refine s_y (v := .pointer (some ⟨b_1, 37, none⟩)) (y_fieldAddr (o' := 37) rfl Try.underlying155 rfl Try.sizeOf53 (by decide) rfl) rfl ?_
 refine s_y (v := .agg #[.int .i64 ((R : Nat) : Int), .int .i64 ((m : Nat) : Int), .int .i64 ((S : Nat) : Int), .int .i64 ((Wn : Nat) : Int)]) (y_loadN rfl Try.isAgg53 Try.sizeOf53 (ownN (.t .h) (pre_getN 4 hpre rfl))) rfl ?_
 refine s_y (v := .pointer (some ⟨b_1, 41, none⟩)) (y_fieldAddr (o' := 41) rfl Try.underlying155 rfl Try.sizeOf153 (by decide) rfl) rfl ?_
 refine s_y (v := .slice ga R gc) (y_load1 rfl Try.isAgg153 (own1 (.t .h) (pre_get 8 hpre rfl))) rfl ?_
 refine s_e rfl ?_
 refine e_call (f := 139) (args := #[.agg #[.int .i64 ((m : Nat) : Int), .slice sa (m + 1) sc, .slice (some ⟨sb, 0, none⟩) 1 1, .slice none 0 0], .agg #[.int .i64 ((R : Nat) : Int), .int .i64 ((m : Nat) : Int), .int .i64 ((S : Nat) : Int), .int .i64 ((Wn : Nat) : Int)], .slice ga R gc]) (X := (Option Addr × Nat) × List Pr) (A := []) (M := [osl a_3 c_4 dR5.length 2 89 (dR5.flatMap prV), cel b_1 155 (pj pre [.int .i64 ((m : Nat) : Int), .slice sa (m + 1) sc, .slice (some ⟨sb, 0, none⟩) 1 1, .slice none 0 0, .int .i64 ((R : Nat) : Int), .int .i64 ((m : Nat) : Int), .int .i64 ((S : Nat) : Int), .int .i64 ((Wn : Nat) : Int), .slice ga R gc]), osl ga gc R 2 89 (li.flatMap prV), osl sa sc (m + 1) 6 86 ((smapL m).flatMap opcV), cel sb 86 [.int .i64 2, .int .i64 0, .int .i64 0, .int .i64 1, .int .i64 0, .int .i64 0]]) (V := fun x => .tuple #[slV x.2 x.1, .int .i64 0]) (A' := fun x => [slR prV 2 89 x.2 x.1]) (C := fun x => OutI (doneC (chkB ((m : Nat) : Int) (smapL m) ([(Opc.mk 2 0 0 1 0 0)]) ([])) ([(Opc.mk 2 0 0 1 0 0)])) (doneC (chkB ((m : Nat) : Int) (smapL m) ([(Opc.mk 2 0 0 1 0 0)]) ([])) ([])) (org (chkB ((m : Nat) : Int) (smapL m) ([(Opc.mk 2 0 0 1 0 0)]) ([])) ((m : Nat) : Int) (smapL m) li) x.2 ∧ x.2.length ≤ 1000) Try.call139 (ev3 rfl rfl rfl) (.p .h (.p .h (.p .h (.p .h (.p .h .nil))))) (fun w hs => rrunP_c sa (some ⟨sb, 0, none⟩) none (m + 1) sc 1 1 0 0 (smapL m) ([(Opc.mk 2 0 0 1 0 0)]) ([]) R m S ((Wn : Nat) : Int) nb K ga gc li w hj (by first | rfl | (simp only [List.length_set]; done) | omega) (oslR (.t (.t (.t .h))) w hs) (by omega) (by first | rfl | (simp only [List.length_set]; done) | omega) (celR (.t (.t (.t (.t .h)))) w hs) (by omega) (by first | rfl | (simp only [List.length_set]; done) | omega) (Rds.nil _ _) (by omega) hck (by first | rfl | (simp only [List.length_set]; done) | omega) (oslR (.t (.t .h)) w hs)) ?_
 rintro ⟨⟨a_6, c_7⟩, dR8⟩ ⟨odR8, ldR8⟩
 replace ldR8 : dR8.length ≤ 1000 := ldR8
 refine s_y (v := .tuple #[.slice a_6 dR8.length c_7, .int .i64 0]) (y_move rfl) rfl ?_
 refine s_y (v := .slice a_6 dR8.length c_7) (y_extract rfl rfl) rfl ?_
 refine s_y (v := .int .i64 0) (y_extract rfl rfl) rfl ?_
 refine s_y (v := .slice a_6 dR8.length c_7) (y_assign rfl) rfl ?_
 refine s_y (v := .int .i64 0) (y_assign rfl) rfl ?_
 refine wpL_nil ?_
 refine thenS_n ?_
 refine wpS_seq ?_
 refine wpS_region ?_
 refine s_y (v := .bool true) (y_call (args := #[]) Try.call137 ev0 (fun w hs => awake16_c w)) rfl ?_
 refine s_y (v := .bool true) (y_move rfl) rfl ?_
 refine s_gy (y_move rfl) rfl rfl rfl rfl rfl rfl ?_
 refine s_gy (y_eql (a := 0) (b := 0) (c := true) rfl rfl (by decide)) rfl rfl rfl rfl rfl rfl ?_
 refine s_y (v := .bool true) (y_pickT rfl rfl rfl) rfl ?_
 refine s_y (v := .bool true) (y_move rfl) rfl ?_
 refine s_gy (y_move rfl) rfl rfl rfl rfl rfl rfl ?_
 refine s_gy (y_eql (a := 0) (b := 0) (c := true) rfl rfl (by decide)) rfl rfl rfl rfl rfl rfl ?_
 refine s_y (v := .bool true) (y_pickT rfl rfl rfl) rfl ?_
 refine s_y (v := .bool true) (y_move rfl) rfl ?_
 refine s_gy (y_move rfl) rfl rfl rfl rfl rfl rfl ?_
 refine s_gy (y_move rfl) rfl rfl rfl rfl rfl rfl ?_
 refine s_gy (y_call (args := #[.slice a_3 dR5.length c_4, .slice a_6 dR8.length c_7]) (v := .bool (decide (dR5 = dR8))) Try.call140 (ev2 rfl rfl) (fun w hs => plainP_c a_3 a_6 dR5.length dR8.length c_4 c_7 dR5 dR8 w rfl (oslR (.t .h) w hs) (by omega) rfl (oslR .h w hs) (by omega))) rfl rfl rfl rfl rfl rfl ?_
 refine s_y (v := .bool (decide (dR5 = dR8))) (y_pickT rfl rfl rfl) rfl ?_
 refine s_y (v := .bool (decide (dR5 = dR8))) (y_assign rfl) rfl ?_
 refine wpL_nil ?_
 refine thenS_n ?_
 refine wpS_ret ?_
 refine fin1 (v := .bool (decide (dR5 = dR8))) (.inr rfl) (.nil) Try.results38 rfl ?_
 exact fun w' hs => ⟨congrArg (fun b => Ending.returned (Value.bool b)) (show (decide (dR5 = dR8)) = true from (decide_eq_true (outI_unique odR5 odR8 (fun k => rfl)))), hs⟩
theorem pspec (pre : List Value) (p0 p1 p2 p3 : Int) (ia : Option Addr) (inn ic : Nat) (lj : List Pr) (m : Nat) (k0 : Int) (a1 a2 a3 : Option Addr) (n1 c1 n2 c2 n3 c3 : Nat) (l1 l2 l3 : List Opc) (w : World) (hpre : pre.length = 33) (hpo : pre.all Value.oneCell' = true) (hmm : 1 + u64of p1 % 2 = m) (hn1 : l1.length = n1) (hr1 : Rds w a1 (l1.flatMap opcV)) (hb1 : n1 ≤ 9223372036854775807) (hn2 : l2.length = n2) (hr2 : Rds w a2 (l2.flatMap opcV)) (hb2 : n2 ≤ 9223372036854775807) (hn3 : l3.length = n3) (hr3 : Rds w a3 (l3.flatMap opcV)) (hb3 : n3 ≤ 9223372036854775807) (hni : lj.length = inn) (hri : Rds w ia (lj.flatMap prV)) (hbi : inn ≤ 9223372036854775807) (hci : inn ≤ ic)  : Pure Try.prog 38 #[.agg (pj pre [.int .i64 k0, .slice a1 n1 c1, .slice a2 n2 c2, .slice a3 n3 c3, .int .i64 p0, .int .i64 p1, .int .i64 p2, .int .i64 p3, .slice ia inn ic]).toArray] w (.bool true) := by
  cases hc : (chkB ((m : Nat) : Int) l1 l2 l3)
  · exact pspec_no pre p0 p1 p2 p3 ia inn ic lj m k0 a1 a2 a3 n1 c1 n2 c2 n3 c3 l1 l2 l3 w hpre hpo hmm hn1 hr1 hb1 hn2 hr2 hb2 hn3 hr3 hb3 hni hri hbi hci hc
  · exact pspec_ok pre p0 p1 p2 p3 ia inn ic lj m k0 a1 a2 a3 n1 c1 n2 c2 n3 c3 l1 l2 l3 w hpre hpo hmm hn1 hr1 hb1 hn2 hr2 hb2 hn3 hr3 hb3 hni hri hbi hci hc
end Go.Proofs.Ytldkjjnjdjfipaa
