/- RPsizes: a part of it: what its walk and its plain law need. -/
import Derived.WalkKit
import Derived.WalkSpells
import Derived.WalkLawsBesides
import Derived.TacticsIn
import Derived.OrdersIn
import Derived.RangeFuncIn
import Derived.RangeFuncLeaves
import Derived.RangeFuncRecord
import Derived.KernelRfl
import Derived.Maps.AppendAt
import Derived.Laws.Cover3
import Derived.Laws.MakeOwn
import Derived.Test.YtldkjjnjdjfipaaRows
import Derived.ChangeKeysEq
import Derived.Test.YtldkjjnjdjfipaaZPZ5
namespace Go.Proofs.Ytldkjjnjdjfipaa
open Go Go.RowKit
set_option linter.unusedVariables false
set_option linter.unusedSimpArgs false
set_option maxRecDepth 10000
set_option maxHeartbeats 1000000
theorem psizes_ok (pre : List Value) (p0 p1 p2 p3 : Int) (ia : Option Addr) (inn ic : Nat) (lj : List Pr) (m : Nat) (k0 : Int) (a1 a2 a3 : Option Addr) (n1 c1 n2 c2 n3 c3 : Nat) (l1 l2 l3 : List Opc) (blk : Int) (blk1 : -9223372036854775808 ≤ blk) (blk2 : blk < 9223372036854775808) (w : World) (hpre : pre.length = 33) (hpo : pre.all Value.oneCell' = true) (hmm : 1 + u64of p1 % 2 = m) (hn1 : l1.length = n1) (hr1 : Rds w a1 (l1.flatMap opcV)) (hb1 : n1 ≤ 9223372036854775807) (hn2 : l2.length = n2) (hr2 : Rds w a2 (l2.flatMap opcV)) (hb2 : n2 ≤ 9223372036854775807) (hn3 : l3.length = n3) (hr3 : Rds w a3 (l3.flatMap opcV)) (hb3 : n3 ≤ 9223372036854775807) (hni : lj.length = inn) (hri : Rds w ia (lj.flatMap prV)) (hbi : inn ≤ 9223372036854775807) (hci : inn ≤ ic)  (hck : (chkB ((m : Nat) : Int) l1 l2 l3) = true) : Pure Try.prog 40 #[.agg (pj pre [.int .i64 k0, .slice a1 n1 c1, .slice a2 n2 c2, .slice a3 n3 c3, .int .i64 p0, .int .i64 p1, .int .i64 p2, .int .i64 p3, .slice ia inn ic]).toArray, .int .i64 blk] w (.bool true) := by
 refine calls_S (n := 98) (σ0 := (upd (upd fr0 0 (.agg (pj pre [.int .i64 k0, .slice a1 n1 c1, .slice a2 n2 c2, .slice a3 n3 c3, .int .i64 p0, .int .i64 p1, .int .i64 p2, .int .i64 p3, .slice ia inn ic]).toArray)) 1 (.int .i64 blk))) (D := []) (A := []) Try.func40 rfl Try.ntmps40 rfl (a2_fr _ _) (SH.start w) ?_
 have hq1 := part_len (chk_bd hck).2.2.1
 have hq2 := part_len (chk_bd hck).2.2.2.1
 have hq3 := part_len (chk_bd hck).2.2.2.2
 refine wpS_seq ?_
 refine wpS_region ?_
 refine s_e rfl ?_
 refine e_box (v := .agg (pj pre [.int .i64 k0, .slice a1 n1 c1, .slice a2 n2 c2, .slice a3 n3 c3, .int .i64 p0, .int .i64 p1, .int .i64 p2, .int .i64 p3, .slice ia inn ic]).toArray) (l := (pj pre [.int .i64 k0, .slice a1 n1 c1, .slice a2 n2 c2, .slice a3 n3 c3, .int .i64 p0, .int .i64 p1, .int .i64 p2, .int .i64 p3, .slice ia inn ic])) rfl rfl ?_
 intro b_1
 refine s_y (v := .bool false) (y_assign rfl) rfl ?_
 refine wpL_nil ?_
 refine thenS_n ?_
 refine wpS_seq ?_
 refine wpS_region ?_
 refine s_y (v := .agg (pj pre [.int .i64 k0, .slice a1 n1 c1, .slice a2 n2 c2, .slice a3 n3 c3, .int .i64 p0, .int .i64 p1, .int .i64 p2, .int .i64 p3, .slice ia inn ic]).toArray) (y_loadW (vs := (pj pre [.int .i64 k0, .slice a1 n1 c1, .slice a2 n2 c2, .slice a3 n3 c3, .int .i64 p0, .int .i64 p1, .int .i64 p2, .int .i64 p3, .slice ia inn ic])) rfl Try.isAgg155 Try.sizeOf155 (by first | rfl | exact pre_len hpre rfl) (fun w hs => ownN .h (by simp only [List.drop_zero]; exact List.take_length) w hs)) rfl ?_
 refine s_e rfl ?_
 refine e_call (f := 134) (args := #[.agg (pj pre [.int .i64 k0, .slice a1 n1 c1, .slice a2 n2 c2, .slice a3 n3 c3, .int .i64 p0, .int .i64 p1, .int .i64 p2, .int .i64 p3, .slice ia inn ic]).toArray]) (X := ((Nat × Nat × Nat) × (Option Addr × Nat) × List Pr)) (A := []) (M := [cel b_1 155 (pj pre [.int .i64 k0, .slice a1 n1 c1, .slice a2 n2 c2, .slice a3 n3 c3, .int .i64 p0, .int .i64 p1, .int .i64 p2, .int .i64 p3, .slice ia inn ic])]) (V := fun x => .agg (pj pre [.int .i64 ((m : Nat) : Int), .slice a1 n1 c1, .slice a2 n2 c2, .slice a3 n3 c3, .int .i64 ((x.1.1 : Nat) : Int), .int .i64 ((m : Nat) : Int), .int .i64 ((x.1.2.1 : Nat) : Int), .int .i64 ((x.1.2.2 : Nat) : Int), .slice x.2.1.1 x.1.1 x.2.1.2]).toArray) (A' := fun x => [osl x.2.1.1 x.2.1.2 x.1.1 2 89 (x.2.2.flatMap prV)]) (C := fun x => ok ⟨((x.1.1 : Nat) : Int), ((m : Nat) : Int), ((x.1.2.1 : Nat) : Int), ((x.1.2.2 : Nat) : Int)⟩ = true ∧ x.1.1 ≤ 6 ∧ x.2.2.length = x.1.1) Try.call134 (ev1 rfl) (.p .h .nil) (fun w hs => jright_ok pre p0 p1 p2 p3 ia inn ic lj m k0 a1 a2 a3 n1 c1 n2 c2 n3 c3 l1 l2 l3 w hpre hpo hmm hn1 (oldR hr1 w hs) hb1 hn2 (oldR hr2 w hs) hb2 hn3 (oldR hr3 w hs) hb3 hni (oldR hri w hs) hbi hci hck) ?_
 rintro ⟨⟨R, S, Wn⟩, ⟨ga, gc⟩, li⟩ ⟨hok, hR6, hll⟩
 replace hok : ok ⟨((R : Nat) : Int), ((m : Nat) : Int), ((S : Nat) : Int), ((Wn : Nat) : Int)⟩ = true := hok
 replace hR6 : R ≤ 6 := hR6
 replace hll : li.length = R := hll
 obtain ⟨nb, K, hj⟩ := jp_of hok
 obtain ⟨hjok, hjb, hjs, hK5, ⟨hR1, hR2⟩, ⟨hm1, hm2⟩, ⟨hS1, hS2⟩, hnm, hrs, hrs2, ⟨hnb1, hnb2⟩⟩ := hj
 have hj : JP R m S ((Wn : Nat) : Int) nb K := ⟨hjok, hjb, hjs, hK5, ⟨hR1, hR2⟩, ⟨hm1, hm2⟩, ⟨hS1, hS2⟩, hnm, hrs, hrs2, ⟨hnb1, hnb2⟩⟩
 have hp2 : 2 ^ K ≤ 32 := Nat.pow_le_pow_right (n := 2) (by decide) hK5
 have hp1 := Nat.two_pow_pos K
 refine s_e0 ?_
 refine e_storeW (vs := (pj pre [.int .i64 (((m : Nat) : Int)), .slice a1 n1 c1, .slice a2 n2 c2, .slice a3 n3 c3, .int .i64 (((R : Nat) : Int)), .int .i64 (((m : Nat) : Int)), .int .i64 (((S : Nat) : Int)), .int .i64 (((Wn : Nat) : Int)), .slice ga R gc])) rfl rfl rfl (pre_one hpo rfl) Try.sizeOf155 (by first | rfl | exact pre_len hpre rfl) (.t .h) (by first | rfl | exact pre_len hpre rfl) ?_
 refine wpL_nil ?_
 refine thenS_n ?_
 refine wpS_seq ?_
 refine wpS_region ?_
 refine s_y (v := .pointer (some ⟨b_1, 37, none⟩)) (y_fieldAddr (o' := 37) rfl Try.underlying155 rfl Try.sizeOf53 (by decide) rfl) rfl ?_
 refine s_y (v := .agg #[.int .i64 (((R : Nat) : Int)), .int .i64 (((m : Nat) : Int)), .int .i64 (((S : Nat) : Int)), .int .i64 (((Wn : Nat) : Int))]) (y_loadN (vs := [.int .i64 (((R : Nat) : Int)), .int .i64 (((m : Nat) : Int)), .int .i64 (((S : Nat) : Int)), .int .i64 (((Wn : Nat) : Int))]) rfl Try.isAgg53 Try.sizeOf53 (ownN .h (pre_getN 4 hpre rfl))) rfl ?_
 refine s_e rfl ?_
 refine e_alloc (l := [.int .i64 0, .int .i64 0, .int .i64 0, .int .i64 0]) Try.zeroValue53 rfl ?_
 intro b_2
 refine s_e0 ?_
 refine e_store (vs := [.int .i64 (((R : Nat) : Int)), .int .i64 (((m : Nat) : Int)), .int .i64 (((S : Nat) : Int)), .int .i64 (((Wn : Nat) : Int))]) (l' := [.int .i64 (((R : Nat) : Int)), .int .i64 (((m : Nat) : Int)), .int .i64 (((S : Nat) : Int)), .int .i64 (((Wn : Nat) : Int))]) rfl rfl rfl rfl Try.sizeOf53 .h (Nat.le_of_ble_eq_true rfl) rfl ?_
 refine wpL_nil ?_
 refine thenS_n ?_
 refine wpS_seq ?_
 refine wpS_region ?_
 refine s_y (v := .int .i64 blk) (y_move rfl) rfl ?_
 refine s_y (v := .int .u64 ((((u64of blk) : Nat) : Int))) (y_convI (a := blk) (c := (((u64of blk) : Nat) : Int)) rfl Try.underlying3 Try.underlying46 (u64of_wrap _)) rfl ?_
 refine s_y (v := .int .u64 (((((u64of blk) % 8) : Nat) : Int))) (y_rem (a := (((u64of blk) : Nat) : Int)) (b := 8) (c := ((((u64of blk) % 8) : Nat) : Int)) rfl rfl (by omega) (n_rem _ 8 (by omega))) rfl ?_
 refine s_y (v := .int .i64 (((((u64of blk) % 8) : Nat) : Int))) (y_convI (a := ((((u64of blk) % 8) : Nat) : Int)) (c := ((((u64of blk) % 8) : Nat) : Int)) rfl Try.underlying46 Try.underlying3 (wI rfl (by omega) (by omega))) rfl ?_
 refine s_y (v := .int .i64 ((((1 + ((u64of blk) % 8)) : Nat) : Int))) (y_add (a := 1) (b := ((((u64of blk) % 8) : Nat) : Int)) (c := (((1 + ((u64of blk) % 8)) : Nat) : Int)) rfl rfl (wI (by omega) (by omega) (by omega))) rfl ?_
 refine s_y (v := .pointer (some ⟨b_2, 2, none⟩)) (y_fieldAddr (o' := 2) rfl Try.underlying53 rfl Try.sizeOf3 (by decide) rfl) rfl ?_
 refine s_e0 ?_
 refine e_store (vs := [.int .i64 ((((1 + ((u64of blk) % 8)) : Nat) : Int))]) (l' := [.int .i64 (((R : Nat) : Int)), .int .i64 (((m : Nat) : Int)), .int .i64 ((((1 + ((u64of blk) % 8)) : Nat) : Int)), .int .i64 (((Wn : Nat) : Int))]) rfl rfl rfl rfl Try.sizeOf3 .h (Nat.le_of_ble_eq_true rfl) rfl ?_
 refine wpL_nil ?_
 refine thenS_n ?_
 refine wpS_seq ?_
 refine wpS_seq ?_
 refine wpS_region ?_
 refine s_y (v := .agg #[.int .i64 (((R : Nat) : Int)), .int .i64 (((m : Nat) : Int)), .int .i64 ((((1 + ((u64of blk) % 8)) : Nat) : Int)), .int .i64 (((Wn : Nat) : Int))]) (y_loadN (vs := [.int .i64 (((R : Nat) : Int)), .int .i64 (((m : Nat) : Int)), .int .i64 ((((1 + ((u64of blk) % 8)) : Nat) : Int)), .int .i64 (((Wn : Nat) : Int))]) rfl Try.isAgg53 Try.sizeOf53 (ownN .h rfl)) rfl ?_
 refine s_y (v := .int .i64 (bad (Par.mk ((R : Nat) : Int) ((m : Nat) : Int) (((1 + ((u64of blk) % 8)) : Nat) : Int) ((Wn : Nat) : Int)))) (y_call (args := #[.agg #[.int .i64 (((R : Nat) : Int)), .int .i64 (((m : Nat) : Int)), .int .i64 ((((1 + ((u64of blk) % 8)) : Nat) : Int)), .int .i64 (((Wn : Nat) : Int))]]) (v := .int .i64 (bad (Par.mk ((R : Nat) : Int) ((m : Nat) : Int) (((1 + ((u64of blk) % 8)) : Nat) : Int) ((Wn : Nat) : Int)))) Try.call101 (ev1 rfl) (fun w hs => rright_c (Par.mk ((R : Nat) : Int) ((m : Nat) : Int) (((1 + ((u64of blk) % 8)) : Nat) : Int) ((Wn : Nat) : Int)) w)) rfl ?_
 refine s_y (v := .bool (decide ((bad (Par.mk ((R : Nat) : Int) ((m : Nat) : Int) (((1 + ((u64of blk) % 8)) : Nat) : Int) ((Wn : Nat) : Int)) : Int) ≠ 0))) (y_neq (a := bad (Par.mk ((R : Nat) : Int) ((m : Nat) : Int) (((1 + ((u64of blk) % 8)) : Nat) : Int) ((Wn : Nat) : Int))) (b := 0) rfl rfl rfl) rfl ?_
 refine wpL_nil ?_
 refine thenS_n ?_
 refine wpS_cond (t := decide ((bad (Par.mk ((R : Nat) : Int) ((m : Nat) : Int) (((1 + ((u64of blk) % 8)) : Nat) : Int) ((Wn : Nat) : Int)) : Int) ≠ 0)) rfl (fun b3 => ?_) (fun b3 => ?_)
 ·
  have p3 := of_decide_eq_true b3
  refine wpS_seq ?_
  refine wpS_region ?_
  refine s_y (v := .bool true) (y_call (args := #[]) (v := .bool true) Try.call137 ev0 (fun w hs => awake16_c w)) rfl ?_
  refine s_y (v := .bool true) (y_assign rfl) rfl ?_
  refine wpL_nil ?_
  refine thenS_n ?_
  refine wpS_ret ?_
  refine thenS_r ?_
  refine fin1 (v := .bool true) (.inr rfl) (.nil) Try.results40 rfl ?_
  exact fun w' hs => ⟨rfl, hs⟩
 ·
  have p3 := of_decide_eq_false b3
  have hok2 : ok ⟨((R : Nat) : Int), ((m : Nat) : Int), (((1 + u64of blk % 8) : Nat) : Int), ((Wn : Nat) : Int)⟩ = true := bad_yes (Decidable.not_not.1 p3)
  obtain ⟨nb2, K2, hj2⟩ := jp_of hok2
  have hs2 := hj2.rs
  have hs3 := hj2.rs2
  have hs4 := hj2.nm
  have hs5 := hj2.n1
  have hs6 : 2 ^ K2 ≤ 32 := Nat.pow_le_pow_right (n := 2) (by decide) hj2.K5
  have hs7 := Nat.two_pow_pos K2
  have hs8 := two_and K2
  have hub : u64of blk % 8 < 8 := Nat.mod_lt _ (by decide)
  have hs9 : nb2 * (1 + u64of blk % 8) ≤ 64 * 8 := Nat.mul_le_mul (by omega) (by omega)
  refine wpS_skip ?_
  refine thenS_n ?_
  refine wpS_seq ?_
  refine wpS_region ?_
  refine s_y (v := .pointer (some ⟨b_1, 33, none⟩)) (y_fieldAddr (o' := 33) rfl Try.underlying155 rfl Try.sizeOf84 (by decide) rfl) rfl ?_
  refine s_y (v := .agg #[.int .i64 (((m : Nat) : Int)), .slice a1 n1 c1, .slice a2 n2 c2, .slice a3 n3 c3]) (y_loadN (vs := [.int .i64 (((m : Nat) : Int)), .slice a1 n1 c1, .slice a2 n2 c2, .slice a3 n3 c3]) rfl Try.isAgg84 Try.sizeOf84 (ownN (.t .h) (pre_getN 0 hpre rfl))) rfl ?_
  refine s_y (v := .pointer (some ⟨b_1, 37, none⟩)) (y_fieldAddr (o' := 37) rfl Try.underlying155 rfl Try.sizeOf53 (by decide) rfl) rfl ?_
  refine s_y (v := .agg #[.int .i64 (((R : Nat) : Int)), .int .i64 (((m : Nat) : Int)), .int .i64 (((S : Nat) : Int)), .int .i64 (((Wn : Nat) : Int))]) (y_loadN (vs := [.int .i64 (((R : Nat) : Int)), .int .i64 (((m : Nat) : Int)), .int .i64 (((S : Nat) : Int)), .int .i64 (((Wn : Nat) : Int))]) rfl Try.isAgg53 Try.sizeOf53 (ownN (.t .h) (pre_getN 4 hpre rfl))) rfl ?_
  refine s_y (v := .pointer (some ⟨b_1, 41, none⟩)) (y_fieldAddr (o' := 41) rfl Try.underlying155 rfl Try.sizeOf153 (by decide) rfl) rfl ?_
  refine s_y (v := .slice ga R gc) (y_load1 (v := .slice ga R gc) rfl Try.isAgg153 (own1 (.t .h) (pre_get 8 hpre rfl))) rfl ?_
  refine s_e rfl ?_
  refine e_call (f := 138) (args := #[.agg #[.int .i64 (((m : Nat) : Int)), .slice a1 n1 c1, .slice a2 n2 c2, .slice a3 n3 c3], .agg #[.int .i64 (((R : Nat) : Int)), .int .i64 (((m : Nat) : Int)), .int .i64 (((S : Nat) : Int)), .int .i64 (((Wn : Nat) : Int))], .slice ga R gc]) (X := Option Addr × Nat) (A := []) (M := [cel b_2 53 [.int .i64 (((R : Nat) : Int)), .int .i64 (((m : Nat) : Int)), .int .i64 ((((1 + ((u64of blk) % 8)) : Nat) : Int)), .int .i64 (((Wn : Nat) : Int))], cel b_1 155 (pj pre [.int .i64 (((m : Nat) : Int)), .slice a1 n1 c1, .slice a2 n2 c2, .slice a3 n3 c3, .int .i64 (((R : Nat) : Int)), .int .i64 (((m : Nat) : Int)), .int .i64 (((S : Nat) : Int)), .int .i64 (((Wn : Nat) : Int)), .slice ga R gc]), osl ga gc R 2 89 (li.flatMap prV)]) (V := fun x => .tuple #[slV (runD (chkB ((m : Nat) : Int) l1 l2 l3) l2 l3 K (mpD (chkB ((m : Nat) : Int) l1 l2 l3) ((m : Nat) : Int) l1 S m li nb (2 ^ K))) x, .int .i64 0]) (A' := fun x => [slR prV 2 89 (runD (chkB ((m : Nat) : Int) l1 l2 l3) l2 l3 K (mpD (chkB ((m : Nat) : Int) l1 l2 l3) ((m : Nat) : Int) l1 S m li nb (2 ^ K))) x]) (C := fun _ => True) Try.call138 (ev3 rfl rfl rfl) (.p .h (.p .h (.p .h .nil))) (fun w hs => runP_c a1 a2 a3 n1 c1 n2 c2 n3 c3 l1 l2 l3 R m S ((Wn : Nat) : Int) nb K ga gc li w hj hn1 ((oldR hr1) w hs) (by omega) hn2 ((oldR hr2) w hs) (by omega) hn3 ((oldR hr3) w hs) (by omega) hck (by first | rfl | (simp only [List.length_set]; done) | omega) (oslR (.t (.t .h)) w hs)) ?_
  rintro ⟨a_5, c_6⟩ -
  generalize hdR7 : (runD (chkB ((m : Nat) : Int) l1 l2 l3) l2 l3 K (mpD (chkB ((m : Nat) : Int) l1 l2 l3) ((m : Nat) : Int) l1 S m li nb (2 ^ K))) = dR7
  have odR7 := jp_out hj hck (by first | rfl | (simp only [List.length_set]; done) | omega)
  have ldR7 := jp_len (li := li) hj hck
  rw [hdR7] at odR7 ldR7
  refine s_y (v := .tuple #[.slice a_5 dR7.length c_6, .int .i64 0]) (y_move rfl) rfl ?_
  refine s_y (v := .slice a_5 dR7.length c_6) (y_extract (v := .slice a_5 dR7.length c_6) rfl rfl) rfl ?_
  refine s_y (v := .int .i64 0) (y_extract (v := .int .i64 0) rfl rfl) rfl ?_
  refine s_y (v := .slice a_5 dR7.length c_6) (y_assign rfl) rfl ?_
  refine s_y (v := .int .i64 0) (y_assign rfl) rfl ?_
  refine wpL_nil ?_
  refine thenS_n ?_
  refine wpS_seq ?_
  refine wpS_region ?_
  refine s_y (v := .pointer (some ⟨b_1, 33, none⟩)) (y_fieldAddr (o' := 33) rfl Try.underlying155 rfl Try.sizeOf84 (by decide) rfl) rfl ?_
  refine s_y (v := .agg #[.int .i64 (((m : Nat) : Int)), .slice a1 n1 c1, .slice a2 n2 c2, .slice a3 n3 c3]) (y_loadN (vs := [.int .i64 (((m : Nat) : Int)), .slice a1 n1 c1, .slice a2 n2 c2, .slice a3 n3 c3]) rfl Try.isAgg84 Try.sizeOf84 (ownN (.t (.t .h)) (pre_getN 0 hpre rfl))) rfl ?_
  refine s_y (v := .agg #[.int .i64 (((R : Nat) : Int)), .int .i64 (((m : Nat) : Int)), .int .i64 ((((1 + ((u64of blk) % 8)) : Nat) : Int)), .int .i64 (((Wn : Nat) : Int))]) (y_loadN (vs := [.int .i64 (((R : Nat) : Int)), .int .i64 (((m : Nat) : Int)), .int .i64 ((((1 + ((u64of blk) % 8)) : Nat) : Int)), .int .i64 (((Wn : Nat) : Int))]) rfl Try.isAgg53 Try.sizeOf53 (ownN (.t .h) rfl)) rfl ?_
  refine s_y (v := .pointer (some ⟨b_1, 41, none⟩)) (y_fieldAddr (o' := 41) rfl Try.underlying155 rfl Try.sizeOf153 (by decide) rfl) rfl ?_
  refine s_y (v := .slice ga R gc) (y_load1 (v := .slice ga R gc) rfl Try.isAgg153 (own1 (.t (.t .h)) (pre_get 8 hpre rfl))) rfl ?_
  refine s_e rfl ?_
  refine e_call (f := 138) (args := #[.agg #[.int .i64 (((m : Nat) : Int)), .slice a1 n1 c1, .slice a2 n2 c2, .slice a3 n3 c3], .agg #[.int .i64 (((R : Nat) : Int)), .int .i64 (((m : Nat) : Int)), .int .i64 ((((1 + ((u64of blk) % 8)) : Nat) : Int)), .int .i64 (((Wn : Nat) : Int))], .slice ga R gc]) (X := Option Addr × Nat) (A := []) (M := [osl a_5 c_6 dR7.length 2 89 (dR7.flatMap prV), cel b_2 53 [.int .i64 (((R : Nat) : Int)), .int .i64 (((m : Nat) : Int)), .int .i64 ((((1 + ((u64of blk) % 8)) : Nat) : Int)), .int .i64 (((Wn : Nat) : Int))], cel b_1 155 (pj pre [.int .i64 (((m : Nat) : Int)), .slice a1 n1 c1, .slice a2 n2 c2, .slice a3 n3 c3, .int .i64 (((R : Nat) : Int)), .int .i64 (((m : Nat) : Int)), .int .i64 (((S : Nat) : Int)), .int .i64 (((Wn : Nat) : Int)), .slice ga R gc]), osl ga gc R 2 89 (li.flatMap prV)]) (V := fun x => .tuple #[slV (runD (chkB ((m : Nat) : Int) l1 l2 l3) l2 l3 K2 (mpD (chkB ((m : Nat) : Int) l1 l2 l3) ((m : Nat) : Int) l1 (1 + ((u64of blk) % 8)) m li nb2 (2 ^ K2))) x, .int .i64 0]) (A' := fun x => [slR prV 2 89 (runD (chkB ((m : Nat) : Int) l1 l2 l3) l2 l3 K2 (mpD (chkB ((m : Nat) : Int) l1 l2 l3) ((m : Nat) : Int) l1 (1 + ((u64of blk) % 8)) m li nb2 (2 ^ K2))) x]) (C := fun _ => True) Try.call138 (ev3 rfl rfl rfl) (.p .h (.p .h (.p .h (.p .h .nil)))) (fun w hs => runP_c a1 a2 a3 n1 c1 n2 c2 n3 c3 l1 l2 l3 R m (1 + ((u64of blk) % 8)) ((Wn : Nat) : Int) nb2 K2 ga gc li w hj2 hn1 ((oldR hr1) w hs) (by omega) hn2 ((oldR hr2) w hs) (by omega) hn3 ((oldR hr3) w hs) (by omega) hck (by first | rfl | (simp only [List.length_set]; done) | omega) (oslR (.t (.t (.t .h))) w hs)) ?_
  rintro ⟨a_9, c_10⟩ -
  generalize hdR11 : (runD (chkB ((m : Nat) : Int) l1 l2 l3) l2 l3 K2 (mpD (chkB ((m : Nat) : Int) l1 l2 l3) ((m : Nat) : Int) l1 (1 + ((u64of blk) % 8)) m li nb2 (2 ^ K2))) = dR11
  have odR11 := jp_out hj2 hck (by first | rfl | (simp only [List.length_set]; done) | omega)
  have ldR11 := jp_len (li := li) hj2 hck
  rw [hdR11] at odR11 ldR11
  refine s_y (v := .tuple #[.slice a_9 dR11.length c_10, .int .i64 0]) (y_move rfl) rfl ?_
  refine s_y (v := .slice a_9 dR11.length c_10) (y_extract (v := .slice a_9 dR11.length c_10) rfl rfl) rfl ?_
  refine s_y (v := .int .i64 0) (y_extract (v := .int .i64 0) rfl rfl) rfl ?_
  refine s_y (v := .slice a_9 dR11.length c_10) (y_assign rfl) rfl ?_
  refine s_y (v := .int .i64 0) (y_assign rfl) rfl ?_
  refine wpL_nil ?_
  refine thenS_n ?_
  refine wpS_seq ?_
  refine wpS_region ?_
  refine s_y (v := .agg #[.int .i64 (((R : Nat) : Int)), .int .i64 (((m : Nat) : Int)), .int .i64 ((((1 + ((u64of blk) % 8)) : Nat) : Int)), .int .i64 (((Wn : Nat) : Int))]) (y_loadN (vs := [.int .i64 (((R : Nat) : Int)), .int .i64 (((m : Nat) : Int)), .int .i64 ((((1 + ((u64of blk) % 8)) : Nat) : Int)), .int .i64 (((Wn : Nat) : Int))]) rfl Try.isAgg53 Try.sizeOf53 (ownN (.t (.t .h)) rfl)) rfl ?_
  refine s_y (v := .tuple #[.int .i64 (((nb2 : Nat) : Int)), .int .i64 ((((2 ^ K2) : Nat) : Int))]) (y_call (args := #[.agg #[.int .i64 (((R : Nat) : Int)), .int .i64 (((m : Nat) : Int)), .int .i64 ((((1 + ((u64of blk) % 8)) : Nat) : Int)), .int .i64 (((Wn : Nat) : Int))]]) (v := .tuple #[.int .i64 (((nb2 : Nat) : Int)), .int .i64 ((((2 ^ K2) : Nat) : Int))]) Try.call135 (ev1 rfl) (fun w hs => blocksJ_c hj2 w)) rfl ?_
  refine s_y (v := .tuple #[.int .i64 (((nb2 : Nat) : Int)), .int .i64 ((((2 ^ K2) : Nat) : Int))]) (y_move rfl) rfl ?_
  refine s_y (v := .int .i64 (((nb2 : Nat) : Int))) (y_extract (v := .int .i64 (((nb2 : Nat) : Int))) rfl rfl) rfl ?_
  refine s_y (v := .int .i64 ((((2 ^ K2) : Nat) : Int))) (y_extract (v := .int .i64 ((((2 ^ K2) : Nat) : Int))) rfl rfl) rfl ?_
  refine s_y (v := .int .i64 (((nb2 : Nat) : Int))) (y_assign rfl) rfl ?_
  refine s_y (v := .int .i64 ((((2 ^ K2) : Nat) : Int))) (y_assign rfl) rfl ?_
  refine wpL_nil ?_
  refine thenS_n ?_
  refine wpS_seq ?_
  refine wpS_region ?_
  refine s_y (v := .bool true) (y_call (args := #[]) (v := .bool true) Try.call137 ev0 (fun w hs => awake16_c w)) rfl ?_
  refine s_y (v := .bool true) (y_move rfl) rfl ?_
  refine s_gy (y_move rfl) rfl rfl rfl rfl rfl rfl ?_
  refine s_gy (y_eql (a := 0) (b := 0) (c := true) rfl rfl (by decide)) rfl rfl rfl rfl rfl rfl ?_
  refine s_y (v := .bool true) (y_pickT (v := .bool true) rfl rfl rfl) rfl ?_
  refine s_y (v := .bool true) (y_move rfl) rfl ?_
  refine s_gy (y_move rfl) rfl rfl rfl rfl rfl rfl ?_
  refine s_gy (y_eql (a := 0) (b := 0) (c := true) rfl rfl (by decide)) rfl rfl rfl rfl rfl rfl ?_
  refine s_y (v := .bool true) (y_pickT (v := .bool true) rfl rfl rfl) rfl ?_
  refine s_y (v := .bool true) (y_move rfl) rfl ?_
  refine s_gy (y_move rfl) rfl rfl rfl rfl rfl rfl ?_
  refine s_gy (y_move rfl) rfl rfl rfl rfl rfl rfl ?_
  refine s_gy (y_call (args := #[.slice a_5 dR7.length c_6, .slice a_9 dR11.length c_10]) (v := .bool (decide (dR7 = dR11))) Try.call140 (ev2 rfl rfl) (fun w hs => plainP_c a_5 a_9 dR7.length dR11.length c_6 c_10 dR7 dR11 w rfl (oslR (.t .h) w hs) (by omega) rfl (oslR .h w hs) (by omega))) rfl rfl rfl rfl rfl rfl ?_
  refine s_y (v := .bool (decide (dR7 = dR11))) (y_pickT (v := .bool (decide (dR7 = dR11))) rfl rfl rfl) rfl ?_
  refine s_y (v := .bool (decide (dR7 = dR11))) (y_move rfl) rfl ?_
  refine s_gy (y_move rfl) rfl rfl rfl rfl (b' := decide (dR7 = dR11)) rfl (decide_eq_true (outI_unique odR7 odR11 (fun k => rfl))) ?_
  refine s_gy (y_fieldAddr (o' := 2) rfl Try.underlying53 rfl Try.sizeOf3 (by decide) rfl) rfl rfl rfl rfl (b' := decide (dR7 = dR11)) rfl (decide_eq_true (outI_unique odR7 odR11 (fun k => rfl))) ?_
  refine s_gy (y_load1 rfl Try.isAgg3 (own1 (.t (.t .h)) rfl)) rfl rfl rfl rfl (b' := decide (dR7 = dR11)) rfl (decide_eq_true (outI_unique odR7 odR11 (fun k => rfl))) ?_
  refine s_gy (y_mul (a := ((nb2 : Nat) : Int)) (b := (((1 + ((u64of blk) % 8)) : Nat) : Int)) (c := (((nb2 * (1 + ((u64of blk) % 8))) : Nat) : Int)) rfl rfl (wI (Int.natCast_mul _ _).symm (by omega) (by omega))) rfl rfl rfl rfl (b' := decide (dR7 = dR11)) rfl (decide_eq_true (outI_unique odR7 odR11 (fun k => rfl))) ?_
  refine s_gy (y_fieldAddr (o' := 0) rfl Try.underlying53 rfl Try.sizeOf3 (by decide) rfl) rfl rfl rfl rfl (b' := decide (dR7 = dR11)) rfl (decide_eq_true (outI_unique odR7 odR11 (fun k => rfl))) ?_
  refine s_gy (y_load1 rfl Try.isAgg3 (own1 (.t (.t .h)) rfl)) rfl rfl rfl rfl (b' := decide (dR7 = dR11)) rfl (decide_eq_true (outI_unique odR7 odR11 (fun k => rfl))) ?_
  refine s_gy (y_geq (a := (((nb2 * (1 + ((u64of blk) % 8))) : Nat) : Int)) (b := ((R : Nat) : Int)) (c := decide (R ≤ (nb2 * (1 + ((u64of blk) % 8))))) rfl rfl (decide_eq_decide.2 (by omega))) rfl rfl rfl rfl (b' := decide (dR7 = dR11)) rfl (decide_eq_true (outI_unique odR7 odR11 (fun k => rfl))) ?_
  refine s_y (v := .bool (decide (R ≤ (nb2 * (1 + ((u64of blk) % 8)))))) (y_pickT (b := decide (dR7 = dR11)) (v := .bool (decide (R ≤ (nb2 * (1 + ((u64of blk) % 8)))))) rfl (decide_eq_true (outI_unique odR7 odR11 (fun k => rfl))) rfl) rfl ?_
  refine s_y (v := .bool (decide (R ≤ (nb2 * (1 + ((u64of blk) % 8)))))) (y_move rfl) rfl ?_
  refine s_gy (y_move rfl) rfl rfl rfl rfl (b' := decide (R ≤ (nb2 * (1 + ((u64of blk) % 8))))) rfl (decide_eq_true (by omega)) ?_
  refine s_gy (y_sub (a := ((nb2 : Nat) : Int)) (b := 1) (c := (((nb2 - 1) : Nat) : Int)) rfl rfl (wI (by omega) (by omega) (by omega))) rfl rfl rfl rfl (b' := decide (R ≤ (nb2 * (1 + ((u64of blk) % 8))))) rfl (decide_eq_true (by omega)) ?_
  refine s_gy (y_fieldAddr (o' := 2) rfl Try.underlying53 rfl Try.sizeOf3 (by decide) rfl) rfl rfl rfl rfl (b' := decide (R ≤ (nb2 * (1 + ((u64of blk) % 8))))) rfl (decide_eq_true (by omega)) ?_
  refine s_gy (y_load1 rfl Try.isAgg3 (own1 (.t (.t .h)) rfl)) rfl rfl rfl rfl (b' := decide (R ≤ (nb2 * (1 + ((u64of blk) % 8))))) rfl (decide_eq_true (by omega)) ?_
  refine s_gy (y_mul (a := (((nb2 - 1) : Nat) : Int)) (b := (((1 + ((u64of blk) % 8)) : Nat) : Int)) (c := ((((nb2 - 1) * (1 + ((u64of blk) % 8))) : Nat) : Int)) rfl rfl (wI (Int.natCast_mul _ _).symm (by omega) (by omega))) rfl rfl rfl rfl (b' := decide (R ≤ (nb2 * (1 + ((u64of blk) % 8))))) rfl (decide_eq_true (by omega)) ?_
  refine s_gy (y_fieldAddr (o' := 0) rfl Try.underlying53 rfl Try.sizeOf3 (by decide) rfl) rfl rfl rfl rfl (b' := decide (R ≤ (nb2 * (1 + ((u64of blk) % 8))))) rfl (decide_eq_true (by omega)) ?_
  refine s_gy (y_load1 rfl Try.isAgg3 (own1 (.t (.t .h)) rfl)) rfl rfl rfl rfl (b' := decide (R ≤ (nb2 * (1 + ((u64of blk) % 8))))) rfl (decide_eq_true (by omega)) ?_
  refine s_gy (y_lss (a := ((((nb2 - 1) * (1 + ((u64of blk) % 8))) : Nat) : Int)) (b := ((R : Nat) : Int)) (c := decide (((nb2 - 1) * (1 + ((u64of blk) % 8))) < R)) rfl rfl (decide_eq_decide.2 (by omega))) rfl rfl rfl rfl (b' := decide (R ≤ (nb2 * (1 + ((u64of blk) % 8))))) rfl (decide_eq_true (by omega)) ?_
  refine s_y (v := .bool (decide (((nb2 - 1) * (1 + ((u64of blk) % 8))) < R))) (y_pickT (b := decide (R ≤ (nb2 * (1 + ((u64of blk) % 8))))) (v := .bool (decide (((nb2 - 1) * (1 + ((u64of blk) % 8))) < R))) rfl (decide_eq_true (by omega)) rfl) rfl ?_
  refine s_y (v := .bool (decide (((nb2 - 1) * (1 + ((u64of blk) % 8))) < R))) (y_move rfl) rfl ?_
  refine s_gy (y_move rfl) rfl rfl rfl rfl (b' := decide (((nb2 - 1) * (1 + ((u64of blk) % 8))) < R)) rfl (decide_eq_true (by omega)) ?_
  refine s_gy (y_move rfl) rfl rfl rfl rfl (b' := decide (((nb2 - 1) * (1 + ((u64of blk) % 8))) < R)) rfl (decide_eq_true (by omega)) ?_
  refine s_gy (y_fieldAddr (o' := 1) rfl Try.underlying53 rfl Try.sizeOf3 (by decide) rfl) rfl rfl rfl rfl (b' := decide (((nb2 - 1) * (1 + ((u64of blk) % 8))) < R)) rfl (decide_eq_true (by omega)) ?_
  refine s_gy (y_load1 rfl Try.isAgg3 (own1 (.t (.t .h)) rfl)) rfl rfl rfl rfl (b' := decide (((nb2 - 1) * (1 + ((u64of blk) % 8))) < R)) rfl (decide_eq_true (by omega)) ?_
  refine s_gy (y_mul (a := ((nb2 : Nat) : Int)) (b := ((m : Nat) : Int)) (c := (((nb2 * m) : Nat) : Int)) rfl rfl (wI (Int.natCast_mul _ _).symm (by omega) (by omega))) rfl rfl rfl rfl (b' := decide (((nb2 - 1) * (1 + ((u64of blk) % 8))) < R)) rfl (decide_eq_true (by omega)) ?_
  refine s_gy (y_gtr (a := (((2 ^ K2) : Nat) : Int)) (b := (((nb2 * m) : Nat) : Int)) (c := decide ((nb2 * m) < (2 ^ K2))) rfl rfl (decide_eq_decide.2 (by omega))) rfl rfl rfl rfl (b' := decide (((nb2 - 1) * (1 + ((u64of blk) % 8))) < R)) rfl (decide_eq_true (by omega)) ?_
  refine s_y (v := .bool (decide ((nb2 * m) < (2 ^ K2)))) (y_pickT (b := decide (((nb2 - 1) * (1 + ((u64of blk) % 8))) < R)) (v := .bool (decide ((nb2 * m) < (2 ^ K2)))) rfl (decide_eq_true (by omega)) rfl) rfl ?_
  refine s_y (v := .bool (decide ((nb2 * m) < (2 ^ K2)))) (y_move rfl) rfl ?_
  refine s_gy (y_move rfl) rfl rfl rfl rfl (b' := decide ((nb2 * m) < (2 ^ K2))) rfl (decide_eq_true (by omega)) ?_
  refine s_gy (y_move rfl) rfl rfl rfl rfl (b' := decide ((nb2 * m) < (2 ^ K2))) rfl (decide_eq_true (by omega)) ?_
  refine s_gy (y_sub (a := (((2 ^ K2) : Nat) : Int)) (b := 1) (c := ((((2 ^ K2) - 1) : Nat) : Int)) rfl rfl (wI (by omega) (by omega) (by omega))) rfl rfl rfl rfl (b' := decide ((nb2 * m) < (2 ^ K2))) rfl (decide_eq_true (by omega)) ?_
  refine s_gy (y_and (a := (((2 ^ K2) : Nat) : Int)) (b := ((((2 ^ K2) - 1) : Nat) : Int)) (c := ((((2 ^ K2) &&& ((2 ^ K2) - 1)) : Nat) : Int)) rfl rfl (zi_and (((2 ^ K2) : Nat) : Int) ((((2 ^ K2) - 1) : Nat) : Int) (by omega) (by omega) (by omega) (by omega))) rfl rfl rfl rfl (b' := decide ((nb2 * m) < (2 ^ K2))) rfl (decide_eq_true (by omega)) ?_
  refine s_gy (y_eql (a := ((((2 ^ K2) &&& ((2 ^ K2) - 1)) : Nat) : Int)) (b := 0) (c := decide ((((2 ^ K2) &&& ((2 ^ K2) - 1)) : Nat) = 0)) rfl rfl (decide_eq_decide.2 (by omega))) rfl rfl rfl rfl (b' := decide ((nb2 * m) < (2 ^ K2))) rfl (decide_eq_true (by omega)) ?_
  refine s_y (v := .bool (decide ((((2 ^ K2) &&& ((2 ^ K2) - 1)) : Nat) = 0))) (y_pickT (b := decide ((nb2 * m) < (2 ^ K2))) (v := .bool (decide ((((2 ^ K2) &&& ((2 ^ K2) - 1)) : Nat) = 0))) rfl (decide_eq_true (by omega)) rfl) rfl ?_
  refine s_y (v := .bool (decide ((((2 ^ K2) &&& ((2 ^ K2) - 1)) : Nat) = 0))) (y_assign rfl) rfl ?_
  refine wpL_nil ?_
  refine thenS_n ?_
  refine wpS_ret ?_
  refine fin1 (v := .bool (decide ((((2 ^ K2) &&& ((2 ^ K2) - 1)) : Nat) = 0))) (.inr rfl) (.nil) Try.results40 rfl ?_
  exact fun w' hs => ⟨congrArg (fun b => Ending.returned (Value.bool b)) (show (decide ((((2 ^ K2) &&& ((2 ^ K2) - 1)) : Nat) = 0)) = true from (decide_eq_true (by omega))), hs⟩
theorem psizes_no (pre : List Value) (p0 p1 p2 p3 : Int) (ia : Option Addr) (inn ic : Nat) (lj : List Pr) (m : Nat) (k0 : Int) (a1 a2 a3 : Option Addr) (n1 c1 n2 c2 n3 c3 : Nat) (l1 l2 l3 : List Opc) (blk : Int) (blk1 : -9223372036854775808 ≤ blk) (blk2 : blk < 9223372036854775808) (w : World) (hpre : pre.length = 33) (hpo : pre.all Value.oneCell' = true) (hmm : 1 + u64of p1 % 2 = m) (hn1 : l1.length = n1) (hr1 : Rds w a1 (l1.flatMap opcV)) (hb1 : n1 ≤ 9223372036854775807) (hn2 : l2.length = n2) (hr2 : Rds w a2 (l2.flatMap opcV)) (hb2 : n2 ≤ 9223372036854775807) (hn3 : l3.length = n3) (hr3 : Rds w a3 (l3.flatMap opcV)) (hb3 : n3 ≤ 9223372036854775807) (hni : lj.length = inn) (hri : Rds w ia (lj.flatMap prV)) (hbi : inn ≤ 9223372036854775807) (hci : inn ≤ ic)  (hck0 : (chkB ((m : Nat) : Int) l1 l2 l3) = false) : Pure Try.prog 40 #[.agg (pj pre [.int .i64 k0, .slice a1 n1 c1, .slice a2 n2 c2, .slice a3 n3 c3, .int .i64 p0, .int .i64 p1, .int .i64 p2, .int .i64 p3, .slice ia inn ic]).toArray, .int .i64 blk] w (.bool true) := by
 refine calls_S (n := 98) (σ0 := (upd (upd fr0 0 (.agg (pj pre [.int .i64 k0, .slice a1 n1 c1, .slice a2 n2 c2, .slice a3 n3 c3, .int .i64 p0, .int .i64 p1, .int .i64 p2, .int .i64 p3, .slice ia inn ic]).toArray)) 1 (.int .i64 blk))) (D := []) (A := []) Try.func40 rfl Try.ntmps40 rfl (a2_fr _ _) (SH.start w) ?_
 refine wpS_seq ?_
 refine wpS_region ?_
 refine s_e rfl ?_
 refine e_box (v := .agg (pj pre [.int .i64 k0, .slice a1 n1 c1, .slice a2 n2 c2, .slice a3 n3 c3, .int .i64 p0, .int .i64 p1, .int .i64 p2, .int .i64 p3, .slice ia inn ic]).toArray) (l := (pj pre [.int .i64 k0, .slice a1 n1 c1, .slice a2 n2 c2, .slice a3 n3 c3, .int .i64 p0, .int .i64 p1, .int .i64 p2, .int .i64 p3, .slice ia inn ic])) rfl rfl ?_
 intro b_1
 refine s_y (v := .bool false) (y_assign rfl) rfl ?_
 refine wpL_nil ?_
 refine thenS_n ?_
 refine wpS_seq ?_
 refine wpS_region ?_
 refine s_y (v := .agg (pj pre [.int .i64 k0, .slice a1 n1 c1, .slice a2 n2 c2, .slice a3 n3 c3, .int .i64 p0, .int .i64 p1, .int .i64 p2, .int .i64 p3, .slice ia inn ic]).toArray) (y_loadW (vs := (pj pre [.int .i64 k0, .slice a1 n1 c1, .slice a2 n2 c2, .slice a3 n3 c3, .int .i64 p0, .int .i64 p1, .int .i64 p2, .int .i64 p3, .slice ia inn ic])) rfl Try.isAgg155 Try.sizeOf155 (by first | rfl | exact pre_len hpre rfl) (fun w hs => ownN .h (by simp only [List.drop_zero]; exact List.take_length) w hs)) rfl ?_
 refine s_e rfl ?_
 refine e_call (f := 134) (args := #[.agg (pj pre [.int .i64 k0, .slice a1 n1 c1, .slice a2 n2 c2, .slice a3 n3 c3, .int .i64 p0, .int .i64 p1, .int .i64 p2, .int .i64 p3, .slice ia inn ic]).toArray]) (X := ((Nat × Nat × Nat) × (Option Addr × Nat) × List Pr) × ((Option Addr × Nat) × Nat)) (A := []) (M := [cel b_1 155 (pj pre [.int .i64 k0, .slice a1 n1 c1, .slice a2 n2 c2, .slice a3 n3 c3, .int .i64 p0, .int .i64 p1, .int .i64 p2, .int .i64 p3, .slice ia inn ic])]) (V := fun x => .agg (pj pre [.int .i64 ((m : Nat) : Int), .slice x.2.1.1 (m + 1) x.2.1.2, .slice (some ⟨x.2.2, 0, none⟩) 1 1, .slice none 0 0, .int .i64 ((x.1.1.1 : Nat) : Int), .int .i64 ((m : Nat) : Int), .int .i64 ((x.1.1.2.1 : Nat) : Int), .int .i64 ((x.1.1.2.2 : Nat) : Int), .slice x.1.2.1.1 x.1.1.1 x.1.2.1.2]).toArray) (A' := fun x => [osl x.1.2.1.1 x.1.2.1.2 x.1.1.1 2 89 (x.1.2.2.flatMap prV), osl x.2.1.1 x.2.1.2 (m + 1) 6 86 ((smapL m).flatMap opcV), cel x.2.2 86 (sfoldL.flatMap opcV)]) (C := fun x => ok ⟨((x.1.1.1 : Nat) : Int), ((m : Nat) : Int), ((x.1.1.2.1 : Nat) : Int), ((x.1.1.2.2 : Nat) : Int)⟩ = true ∧ x.1.1.1 ≤ 6 ∧ x.1.2.2.length = x.1.1.1) Try.call134 (ev1 rfl) (.p .h .nil) (fun w hs => jright_no pre p0 p1 p2 p3 ia inn ic lj m k0 a1 a2 a3 n1 c1 n2 c2 n3 c3 l1 l2 l3 w hpre hpo hmm hn1 (oldR hr1 w hs) hb1 hn2 (oldR hr2 w hs) hb2 hn3 (oldR hr3 w hs) hb3 hni (oldR hri w hs) hbi hci hck0) ?_
 rintro ⟨⟨⟨R, S, Wn⟩, ⟨ga, gc⟩, li⟩, ⟨⟨sa, sc⟩, sb⟩⟩ ⟨hok, hR6, hll⟩
 replace hok : ok ⟨((R : Nat) : Int), ((m : Nat) : Int), ((S : Nat) : Int), ((Wn : Nat) : Int)⟩ = true := hok
 replace hR6 : R ≤ 6 := hR6
 replace hll : li.length = R := hll
 obtain ⟨nb, K, hj⟩ := jp_of hok
 obtain ⟨hjok, hjb, hjs, hK5, ⟨hR1, hR2⟩, ⟨hm1, hm2⟩, ⟨hS1, hS2⟩, hnm, hrs, hrs2, ⟨hnb1, hnb2⟩⟩ := hj
 have hj : JP R m S ((Wn : Nat) : Int) nb K := ⟨hjok, hjb, hjs, hK5, ⟨hR1, hR2⟩, ⟨hm1, hm2⟩, ⟨hS1, hS2⟩, hnm, hrs, hrs2, ⟨hnb1, hnb2⟩⟩
 have hp2 : 2 ^ K ≤ 32 := Nat.pow_le_pow_right (n := 2) (by decide) hK5
 have hp1 := Nat.two_pow_pos K
 have hck := sums_ok (m := m) (by omega) (by omega)
 have hsmL := smap_len m
 refine s_e0 ?_
 refine e_storeW (vs := (pj pre [.int .i64 (((m : Nat) : Int)), .slice sa (m + 1) sc, .slice (some ⟨sb, 0, none⟩) 1 1, .slice none 0 0, .int .i64 (((R : Nat) : Int)), .int .i64 (((m : Nat) : Int)), .int .i64 (((S : Nat) : Int)), .int .i64 (((Wn : Nat) : Int)), .slice ga R gc])) rfl rfl rfl (pre_one hpo rfl) Try.sizeOf155 (by first | rfl | exact pre_len hpre rfl) (.t (.t (.t .h))) (by first | rfl | exact pre_len hpre rfl) ?_
 refine wpL_nil ?_
 refine thenS_n ?_
 refine wpS_seq ?_
 refine wpS_region ?_
 refine s_y (v := .pointer (some ⟨b_1, 37, none⟩)) (y_fieldAddr (o' := 37) rfl Try.underlying155 rfl Try.sizeOf53 (by decide) rfl) rfl ?_
 refine s_y (v := .agg #[.int .i64 (((R : Nat) : Int)), .int .i64 (((m : Nat) : Int)), .int .i64 (((S : Nat) : Int)), .int .i64 (((Wn : Nat) : Int))]) (y_loadN (vs := [.int .i64 (((R : Nat) : Int)), .int .i64 (((m : Nat) : Int)), .int .i64 (((S : Nat) : Int)), .int .i64 (((Wn : Nat) : Int))]) rfl Try.isAgg53 Try.sizeOf53 (ownN .h (pre_getN 4 hpre rfl))) rfl ?_
 refine s_e rfl ?_
 refine e_alloc (l := [.int .i64 0, .int .i64 0, .int .i64 0, .int .i64 0]) Try.zeroValue53 rfl ?_
 intro b_2
 refine s_e0 ?_
 refine e_store (vs := [.int .i64 (((R : Nat) : Int)), .int .i64 (((m : Nat) : Int)), .int .i64 (((S : Nat) : Int)), .int .i64 (((Wn : Nat) : Int))]) (l' := [.int .i64 (((R : Nat) : Int)), .int .i64 (((m : Nat) : Int)), .int .i64 (((S : Nat) : Int)), .int .i64 (((Wn : Nat) : Int))]) rfl rfl rfl rfl Try.sizeOf53 .h (Nat.le_of_ble_eq_true rfl) rfl ?_
 refine wpL_nil ?_
 refine thenS_n ?_
 refine wpS_seq ?_
 refine wpS_region ?_
 refine s_y (v := .int .i64 blk) (y_move rfl) rfl ?_
 refine s_y (v := .int .u64 ((((u64of blk) : Nat) : Int))) (y_convI (a := blk) (c := (((u64of blk) : Nat) : Int)) rfl Try.underlying3 Try.underlying46 (u64of_wrap _)) rfl ?_
 refine s_y (v := .int .u64 (((((u64of blk) % 8) : Nat) : Int))) (y_rem (a := (((u64of blk) : Nat) : Int)) (b := 8) (c := ((((u64of blk) % 8) : Nat) : Int)) rfl rfl (by omega) (n_rem _ 8 (by omega))) rfl ?_
 refine s_y (v := .int .i64 (((((u64of blk) % 8) : Nat) : Int))) (y_convI (a := ((((u64of blk) % 8) : Nat) : Int)) (c := ((((u64of blk) % 8) : Nat) : Int)) rfl Try.underlying46 Try.underlying3 (wI rfl (by omega) (by omega))) rfl ?_
 refine s_y (v := .int .i64 ((((1 + ((u64of blk) % 8)) : Nat) : Int))) (y_add (a := 1) (b := ((((u64of blk) % 8) : Nat) : Int)) (c := (((1 + ((u64of blk) % 8)) : Nat) : Int)) rfl rfl (wI (by omega) (by omega) (by omega))) rfl ?_
 refine s_y (v := .pointer (some ⟨b_2, 2, none⟩)) (y_fieldAddr (o' := 2) rfl Try.underlying53 rfl Try.sizeOf3 (by decide) rfl) rfl ?_
 refine s_e0 ?_
 refine e_store (vs := [.int .i64 ((((1 + ((u64of blk) % 8)) : Nat) : Int))]) (l' := [.int .i64 (((R : Nat) : Int)), .int .i64 (((m : Nat) : Int)), .int .i64 ((((1 + ((u64of blk) % 8)) : Nat) : Int)), .int .i64 (((Wn : Nat) : Int))]) rfl rfl rfl rfl Try.sizeOf3 .h (Nat.le_of_ble_eq_true rfl) rfl ?_
 refine wpL_nil ?_
 refine thenS_n ?_
 refine wpS_seq ?_
 refine wpS_seq ?_
 refine wpS_region ?_
 refine s_y (v := .agg #[.int .i64 (((R : Nat) : Int)), .int .i64 (((m : Nat) : Int)), .int .i64 ((((1 + ((u64of blk) % 8)) : Nat) : Int)), .int .i64 (((Wn : Nat) : Int))]) (y_loadN (vs := [.int .i64 (((R : Nat) : Int)), .int .i64 (((m : Nat) : Int)), .int .i64 ((((1 + ((u64of blk) % 8)) : Nat) : Int)), .int .i64 (((Wn : Nat) : Int))]) rfl Try.isAgg53 Try.sizeOf53 (ownN .h rfl)) rfl ?_
 refine s_y (v := .int .i64 (bad (Par.mk ((R : Nat) : Int) ((m : Nat) : Int) (((1 + ((u64of blk) % 8)) : Nat) : Int) ((Wn : Nat) : Int)))) (y_call (args := #[.agg #[.int .i64 (((R : Nat) : Int)), .int .i64 (((m : Nat) : Int)), .int .i64 ((((1 + ((u64of blk) % 8)) : Nat) : Int)), .int .i64 (((Wn : Nat) : Int))]]) (v := .int .i64 (bad (Par.mk ((R : Nat) : Int) ((m : Nat) : Int) (((1 + ((u64of blk) % 8)) : Nat) : Int) ((Wn : Nat) : Int)))) Try.call101 (ev1 rfl) (fun w hs => rright_c (Par.mk ((R : Nat) : Int) ((m : Nat) : Int) (((1 + ((u64of blk) % 8)) : Nat) : Int) ((Wn : Nat) : Int)) w)) rfl ?_
 refine s_y (v := .bool (decide ((bad (Par.mk ((R : Nat) : Int) ((m : Nat) : Int) (((1 + ((u64of blk) % 8)) : Nat) : Int) ((Wn : Nat) : Int)) : Int) ≠ 0))) (y_neq (a := bad (Par.mk ((R : Nat) : Int) ((m : Nat) : Int) (((1 + ((u64of blk) % 8)) : Nat) : Int) ((Wn : Nat) : Int))) (b := 0) rfl rfl rfl) rfl ?_
 refine wpL_nil ?_
 refine thenS_n ?_
 refine wpS_cond (t := decide ((bad (Par.mk ((R : Nat) : Int) ((m : Nat) : Int) (((1 + ((u64of blk) % 8)) : Nat) : Int) ((Wn : Nat) : Int)) : Int) ≠ 0)) rfl (fun b3 => ?_) (fun b3 => ?_)
 ·
  have p3 := of_decide_eq_true b3
  refine wpS_seq ?_
  refine wpS_region ?_
  refine s_y (v := .bool true) (y_call (args := #[]) (v := .bool true) Try.call137 ev0 (fun w hs => awake16_c w)) rfl ?_
  refine s_y (v := .bool true) (y_assign rfl) rfl ?_
  refine wpL_nil ?_
  refine thenS_n ?_
  refine wpS_ret ?_
  refine thenS_r ?_
  refine fin1 (v := .bool true) (.inr rfl) (.nil) Try.results40 rfl ?_
  exact fun w' hs => ⟨rfl, hs⟩
 ·
  have p3 := of_decide_eq_false b3
  have hok2 : ok ⟨((R : Nat) : Int), ((m : Nat) : Int), (((1 + u64of blk % 8) : Nat) : Int), ((Wn : Nat) : Int)⟩ = true := bad_yes (Decidable.not_not.1 p3)
  obtain ⟨nb2, K2, hj2⟩ := jp_of hok2
  have hs2 := hj2.rs
  have hs3 := hj2.rs2
  have hs4 := hj2.nm
  have hs5 := hj2.n1
  have hs6 : 2 ^ K2 ≤ 32 := Nat.pow_le_pow_right (n := 2) (by decide) hj2.K5
  have hs7 := Nat.two_pow_pos K2
  have hs8 := two_and K2
  have hub : u64of blk % 8 < 8 := Nat.mod_lt _ (by decide)
  have hs9 : nb2 * (1 + u64of blk % 8) ≤ 64 * 8 := Nat.mul_le_mul (by omega) (by omega)
  refine wpS_skip ?_
  refine thenS_n ?_
  refine wpS_seq ?_
  refine wpS_region ?_
  refine s_y (v := .pointer (some ⟨b_1, 33, none⟩)) (y_fieldAddr (o' := 33) rfl Try.underlying155 rfl Try.sizeOf84 (by decide) rfl) rfl ?_
  refine s_y (v := .agg #[.int .i64 (((m : Nat) : Int)), .slice sa (m + 1) sc, .slice (some ⟨sb, 0, none⟩) 1 1, .slice none 0 0]) (y_loadN (vs := [.int .i64 (((m : Nat) : Int)), .slice sa (m + 1) sc, .slice (some ⟨sb, 0, none⟩) 1 1, .slice none 0 0]) rfl Try.isAgg84 Try.sizeOf84 (ownN (.t .h) (pre_getN 0 hpre rfl))) rfl ?_
  refine s_y (v := .pointer (some ⟨b_1, 37, none⟩)) (y_fieldAddr (o' := 37) rfl Try.underlying155 rfl Try.sizeOf53 (by decide) rfl) rfl ?_
  refine s_y (v := .agg #[.int .i64 (((R : Nat) : Int)), .int .i64 (((m : Nat) : Int)), .int .i64 (((S : Nat) : Int)), .int .i64 (((Wn : Nat) : Int))]) (y_loadN (vs := [.int .i64 (((R : Nat) : Int)), .int .i64 (((m : Nat) : Int)), .int .i64 (((S : Nat) : Int)), .int .i64 (((Wn : Nat) : Int))]) rfl Try.isAgg53 Try.sizeOf53 (ownN (.t .h) (pre_getN 4 hpre rfl))) rfl ?_
  refine s_y (v := .pointer (some ⟨b_1, 41, none⟩)) (y_fieldAddr (o' := 41) rfl Try.underlying155 rfl Try.sizeOf153 (by decide) rfl) rfl ?_
  refine s_y (v := .slice ga R gc) (y_load1 (v := .slice ga R gc) rfl Try.isAgg153 (own1 (.t .h) (pre_get 8 hpre rfl))) rfl ?_
  refine s_e rfl ?_
  refine e_call (f := 138) (args := #[.agg #[.int .i64 (((m : Nat) : Int)), .slice sa (m + 1) sc, .slice (some ⟨sb, 0, none⟩) 1 1, .slice none 0 0], .agg #[.int .i64 (((R : Nat) : Int)), .int .i64 (((m : Nat) : Int)), .int .i64 (((S : Nat) : Int)), .int .i64 (((Wn : Nat) : Int))], .slice ga R gc]) (X := Option Addr × Nat) (A := []) (M := [cel b_2 53 [.int .i64 (((R : Nat) : Int)), .int .i64 (((m : Nat) : Int)), .int .i64 ((((1 + ((u64of blk) % 8)) : Nat) : Int)), .int .i64 (((Wn : Nat) : Int))], cel b_1 155 (pj pre [.int .i64 (((m : Nat) : Int)), .slice sa (m + 1) sc, .slice (some ⟨sb, 0, none⟩) 1 1, .slice none 0 0, .int .i64 (((R : Nat) : Int)), .int .i64 (((m : Nat) : Int)), .int .i64 (((S : Nat) : Int)), .int .i64 (((Wn : Nat) : Int)), .slice ga R gc]), osl ga gc R 2 89 (li.flatMap prV), osl sa sc (m + 1) 6 86 ((smapL m).flatMap opcV), cel sb 86 [.int .i64 2, .int .i64 0, .int .i64 0, .int .i64 1, .int .i64 0, .int .i64 0]]) (V := fun x => .tuple #[slV (runD (chkB ((m : Nat) : Int) (smapL m) ([(Opc.mk 2 0 0 1 0 0)]) ([])) ([(Opc.mk 2 0 0 1 0 0)]) ([]) K (mpD (chkB ((m : Nat) : Int) (smapL m) ([(Opc.mk 2 0 0 1 0 0)]) ([])) ((m : Nat) : Int) (smapL m) S m li nb (2 ^ K))) x, .int .i64 0]) (A' := fun x => [slR prV 2 89 (runD (chkB ((m : Nat) : Int) (smapL m) ([(Opc.mk 2 0 0 1 0 0)]) ([])) ([(Opc.mk 2 0 0 1 0 0)]) ([]) K (mpD (chkB ((m : Nat) : Int) (smapL m) ([(Opc.mk 2 0 0 1 0 0)]) ([])) ((m : Nat) : Int) (smapL m) S m li nb (2 ^ K))) x]) (C := fun _ => True) Try.call138 (ev3 rfl rfl rfl) (.p .h (.p .h (.p .h (.p .h (.p .h .nil))))) (fun w hs => runP_c sa (some ⟨sb, 0, none⟩) none (m + 1) sc 1 1 0 0 (smapL m) ([(Opc.mk 2 0 0 1 0 0)]) ([]) R m S ((Wn : Nat) : Int) nb K ga gc li w hj (by first | rfl | (simp only [List.length_set]; done) | omega) (oslR (.t (.t (.t .h))) w hs) (by omega) (by first | rfl | (simp only [List.length_set]; done) | omega) (celR (.t (.t (.t (.t .h)))) w hs) (by omega) (by first | rfl | (simp only [List.length_set]; done) | omega) (Rds.nil _ _) (by omega) hck (by first | rfl | (simp only [List.length_set]; done) | omega) (oslR (.t (.t .h)) w hs)) ?_
  rintro ⟨a_5, c_6⟩ -
  generalize hdR7 : (runD (chkB ((m : Nat) : Int) (smapL m) ([(Opc.mk 2 0 0 1 0 0)]) ([])) ([(Opc.mk 2 0 0 1 0 0)]) ([]) K (mpD (chkB ((m : Nat) : Int) (smapL m) ([(Opc.mk 2 0 0 1 0 0)]) ([])) ((m : Nat) : Int) (smapL m) S m li nb (2 ^ K))) = dR7
  have odR7 := jp_out hj hck (by first | rfl | (simp only [List.length_set]; done) | omega)
  have ldR7 := jp_len (li := li) hj hck
  rw [hdR7] at odR7 ldR7
  refine s_y (v := .tuple #[.slice a_5 dR7.length c_6, .int .i64 0]) (y_move rfl) rfl ?_
  refine s_y (v := .slice a_5 dR7.length c_6) (y_extract (v := .slice a_5 dR7.length c_6) rfl rfl) rfl ?_
  refine s_y (v := .int .i64 0) (y_extract (v := .int .i64 0) rfl rfl) rfl ?_
  refine s_y (v := .slice a_5 dR7.length c_6) (y_assign rfl) rfl ?_
  refine s_y (v := .int .i64 0) (y_assign rfl) rfl ?_
  refine wpL_nil ?_
  refine thenS_n ?_
  refine wpS_seq ?_
  refine wpS_region ?_
  refine s_y (v := .pointer (some ⟨b_1, 33, none⟩)) (y_fieldAddr (o' := 33) rfl Try.underlying155 rfl Try.sizeOf84 (by decide) rfl) rfl ?_
  refine s_y (v := .agg #[.int .i64 (((m : Nat) : Int)), .slice sa (m + 1) sc, .slice (some ⟨sb, 0, none⟩) 1 1, .slice none 0 0]) (y_loadN (vs := [.int .i64 (((m : Nat) : Int)), .slice sa (m + 1) sc, .slice (some ⟨sb, 0, none⟩) 1 1, .slice none 0 0]) rfl Try.isAgg84 Try.sizeOf84 (ownN (.t (.t .h)) (pre_getN 0 hpre rfl))) rfl ?_
  refine s_y (v := .agg #[.int .i64 (((R : Nat) : Int)), .int .i64 (((m : Nat) : Int)), .int .i64 ((((1 + ((u64of blk) % 8)) : Nat) : Int)), .int .i64 (((Wn : Nat) : Int))]) (y_loadN (vs := [.int .i64 (((R : Nat) : Int)), .int .i64 (((m : Nat) : Int)), .int .i64 ((((1 + ((u64of blk) % 8)) : Nat) : Int)), .int .i64 (((Wn : Nat) : Int))]) rfl Try.isAgg53 Try.sizeOf53 (ownN (.t .h) rfl)) rfl ?_
  refine s_y (v := .pointer (some ⟨b_1, 41, none⟩)) (y_fieldAddr (o' := 41) rfl Try.underlying155 rfl Try.sizeOf153 (by decide) rfl) rfl ?_
  refine s_y (v := .slice ga R gc) (y_load1 (v := .slice ga R gc) rfl Try.isAgg153 (own1 (.t (.t .h)) (pre_get 8 hpre rfl))) rfl ?_
  refine s_e rfl ?_
  refine e_call (f := 138) (args := #[.agg #[.int .i64 (((m : Nat) : Int)), .slice sa (m + 1) sc, .slice (some ⟨sb, 0, none⟩) 1 1, .slice none 0 0], .agg #[.int .i64 (((R : Nat) : Int)), .int .i64 (((m : Nat) : Int)), .int .i64 ((((1 + ((u64of blk) % 8)) : Nat) : Int)), .int .i64 (((Wn : Nat) : Int))], .slice ga R gc]) (X := Option Addr × Nat) (A := []) (M := [osl a_5 c_6 dR7.length 2 89 (dR7.flatMap prV), cel b_2 53 [.int .i64 (((R : Nat) : Int)), .int .i64 (((m : Nat) : Int)), .int .i64 ((((1 + ((u64of blk) % 8)) : Nat) : Int)), .int .i64 (((Wn : Nat) : Int))], cel b_1 155 (pj pre [.int .i64 (((m : Nat) : Int)), .slice sa (m + 1) sc, .slice (some ⟨sb, 0, none⟩) 1 1, .slice none 0 0, .int .i64 (((R : Nat) : Int)), .int .i64 (((m : Nat) : Int)), .int .i64 (((S : Nat) : Int)), .int .i64 (((Wn : Nat) : Int)), .slice ga R gc]), osl ga gc R 2 89 (li.flatMap prV), osl sa sc (m + 1) 6 86 ((smapL m).flatMap opcV), cel sb 86 [.int .i64 2, .int .i64 0, .int .i64 0, .int .i64 1, .int .i64 0, .int .i64 0]]) (V := fun x => .tuple #[slV (runD (chkB ((m : Nat) : Int) (smapL m) ([(Opc.mk 2 0 0 1 0 0)]) ([])) ([(Opc.mk 2 0 0 1 0 0)]) ([]) K2 (mpD (chkB ((m : Nat) : Int) (smapL m) ([(Opc.mk 2 0 0 1 0 0)]) ([])) ((m : Nat) : Int) (smapL m) (1 + ((u64of blk) % 8)) m li nb2 (2 ^ K2))) x, .int .i64 0]) (A' := fun x => [slR prV 2 89 (runD (chkB ((m : Nat) : Int) (smapL m) ([(Opc.mk 2 0 0 1 0 0)]) ([])) ([(Opc.mk 2 0 0 1 0 0)]) ([]) K2 (mpD (chkB ((m : Nat) : Int) (smapL m) ([(Opc.mk 2 0 0 1 0 0)]) ([])) ((m : Nat) : Int) (smapL m) (1 + ((u64of blk) % 8)) m li nb2 (2 ^ K2))) x]) (C := fun _ => True) Try.call138 (ev3 rfl rfl rfl) (.p .h (.p .h (.p .h (.p .h (.p .h (.p .h .nil)))))) (fun w hs => runP_c sa (some ⟨sb, 0, none⟩) none (m + 1) sc 1 1 0 0 (smapL m) ([(Opc.mk 2 0 0 1 0 0)]) ([]) R m (1 + ((u64of blk) % 8)) ((Wn : Nat) : Int) nb2 K2 ga gc li w hj2 (by first | rfl | (simp only [List.length_set]; done) | omega) (oslR (.t (.t (.t (.t .h)))) w hs) (by omega) (by first | rfl | (simp only [List.length_set]; done) | omega) (celR (.t (.t (.t (.t (.t .h))))) w hs) (by omega) (by first | rfl | (simp only [List.length_set]; done) | omega) (Rds.nil _ _) (by omega) hck (by first | rfl | (simp only [List.length_set]; done) | omega) (oslR (.t (.t (.t .h))) w hs)) ?_
  rintro ⟨a_9, c_10⟩ -
  generalize hdR11 : (runD (chkB ((m : Nat) : Int) (smapL m) ([(Opc.mk 2 0 0 1 0 0)]) ([])) ([(Opc.mk 2 0 0 1 0 0)]) ([]) K2 (mpD (chkB ((m : Nat) : Int) (smapL m) ([(Opc.mk 2 0 0 1 0 0)]) ([])) ((m : Nat) : Int) (smapL m) (1 + ((u64of blk) % 8)) m li nb2 (2 ^ K2))) = dR11
  have odR11 := jp_out hj2 hck (by first | rfl | (simp only [List.length_set]; done) | omega)
  have ldR11 := jp_len (li := li) hj2 hck
  rw [hdR11] at odR11 ldR11
  refine s_y (v := .tuple #[.slice a_9 dR11.length c_10, .int .i64 0]) (y_move rfl) rfl ?_
  refine s_y (v := .slice a_9 dR11.length c_10) (y_extract (v := .slice a_9 dR11.length c_10) rfl rfl) rfl ?_
  refine s_y (v := .int .i64 0) (y_extract (v := .int .i64 0) rfl rfl) rfl ?_
  refine s_y (v := .slice a_9 dR11.length c_10) (y_assign rfl) rfl ?_
  refine s_y (v := .int .i64 0) (y_assign rfl) rfl ?_
  refine wpL_nil ?_
  refine thenS_n ?_
  refine wpS_seq ?_
  refine wpS_region ?_
  refine s_y (v := .agg #[.int .i64 (((R : Nat) : Int)), .int .i64 (((m : Nat) : Int)), .int .i64 ((((1 + ((u64of blk) % 8)) : Nat) : Int)), .int .i64 (((Wn : Nat) : Int))]) (y_loadN (vs := [.int .i64 (((R : Nat) : Int)), .int .i64 (((m : Nat) : Int)), .int .i64 ((((1 + ((u64of blk) % 8)) : Nat) : Int)), .int .i64 (((Wn : Nat) : Int))]) rfl Try.isAgg53 Try.sizeOf53 (ownN (.t (.t .h)) rfl)) rfl ?_
  refine s_y (v := .tuple #[.int .i64 (((nb2 : Nat) : Int)), .int .i64 ((((2 ^ K2) : Nat) : Int))]) (y_call (args := #[.agg #[.int .i64 (((R : Nat) : Int)), .int .i64 (((m : Nat) : Int)), .int .i64 ((((1 + ((u64of blk) % 8)) : Nat) : Int)), .int .i64 (((Wn : Nat) : Int))]]) (v := .tuple #[.int .i64 (((nb2 : Nat) : Int)), .int .i64 ((((2 ^ K2) : Nat) : Int))]) Try.call135 (ev1 rfl) (fun w hs => blocksJ_c hj2 w)) rfl ?_
  refine s_y (v := .tuple #[.int .i64 (((nb2 : Nat) : Int)), .int .i64 ((((2 ^ K2) : Nat) : Int))]) (y_move rfl) rfl ?_
  refine s_y (v := .int .i64 (((nb2 : Nat) : Int))) (y_extract (v := .int .i64 (((nb2 : Nat) : Int))) rfl rfl) rfl ?_
  refine s_y (v := .int .i64 ((((2 ^ K2) : Nat) : Int))) (y_extract (v := .int .i64 ((((2 ^ K2) : Nat) : Int))) rfl rfl) rfl ?_
  refine s_y (v := .int .i64 (((nb2 : Nat) : Int))) (y_assign rfl) rfl ?_
  refine s_y (v := .int .i64 ((((2 ^ K2) : Nat) : Int))) (y_assign rfl) rfl ?_
  refine wpL_nil ?_
  refine thenS_n ?_
  refine wpS_seq ?_
  refine wpS_region ?_
  refine s_y (v := .bool true) (y_call (args := #[]) (v := .bool true) Try.call137 ev0 (fun w hs => awake16_c w)) rfl ?_
  refine s_y (v := .bool true) (y_move rfl) rfl ?_
  refine s_gy (y_move rfl) rfl rfl rfl rfl rfl rfl ?_
  refine s_gy (y_eql (a := 0) (b := 0) (c := true) rfl rfl (by decide)) rfl rfl rfl rfl rfl rfl ?_
  refine s_y (v := .bool true) (y_pickT (v := .bool true) rfl rfl rfl) rfl ?_
  refine s_y (v := .bool true) (y_move rfl) rfl ?_
  refine s_gy (y_move rfl) rfl rfl rfl rfl rfl rfl ?_
  refine s_gy (y_eql (a := 0) (b := 0) (c := true) rfl rfl (by decide)) rfl rfl rfl rfl rfl rfl ?_
  refine s_y (v := .bool true) (y_pickT (v := .bool true) rfl rfl rfl) rfl ?_
  refine s_y (v := .bool true) (y_move rfl) rfl ?_
  refine s_gy (y_move rfl) rfl rfl rfl rfl rfl rfl ?_
  refine s_gy (y_move rfl) rfl rfl rfl rfl rfl rfl ?_
  refine s_gy (y_call (args := #[.slice a_5 dR7.length c_6, .slice a_9 dR11.length c_10]) (v := .bool (decide (dR7 = dR11))) Try.call140 (ev2 rfl rfl) (fun w hs => plainP_c a_5 a_9 dR7.length dR11.length c_6 c_10 dR7 dR11 w rfl (oslR (.t .h) w hs) (by omega) rfl (oslR .h w hs) (by omega))) rfl rfl rfl rfl rfl rfl ?_
  refine s_y (v := .bool (decide (dR7 = dR11))) (y_pickT (v := .bool (decide (dR7 = dR11))) rfl rfl rfl) rfl ?_
  refine s_y (v := .bool (decide (dR7 = dR11))) (y_move rfl) rfl ?_
  refine s_gy (y_move rfl) rfl rfl rfl rfl (b' := decide (dR7 = dR11)) rfl (decide_eq_true (outI_unique odR7 odR11 (fun k => rfl))) ?_
  refine s_gy (y_fieldAddr (o' := 2) rfl Try.underlying53 rfl Try.sizeOf3 (by decide) rfl) rfl rfl rfl rfl (b' := decide (dR7 = dR11)) rfl (decide_eq_true (outI_unique odR7 odR11 (fun k => rfl))) ?_
  refine s_gy (y_load1 rfl Try.isAgg3 (own1 (.t (.t .h)) rfl)) rfl rfl rfl rfl (b' := decide (dR7 = dR11)) rfl (decide_eq_true (outI_unique odR7 odR11 (fun k => rfl))) ?_
  refine s_gy (y_mul (a := ((nb2 : Nat) : Int)) (b := (((1 + ((u64of blk) % 8)) : Nat) : Int)) (c := (((nb2 * (1 + ((u64of blk) % 8))) : Nat) : Int)) rfl rfl (wI (Int.natCast_mul _ _).symm (by omega) (by omega))) rfl rfl rfl rfl (b' := decide (dR7 = dR11)) rfl (decide_eq_true (outI_unique odR7 odR11 (fun k => rfl))) ?_
  refine s_gy (y_fieldAddr (o' := 0) rfl Try.underlying53 rfl Try.sizeOf3 (by decide) rfl) rfl rfl rfl rfl (b' := decide (dR7 = dR11)) rfl (decide_eq_true (outI_unique odR7 odR11 (fun k => rfl))) ?_
  refine s_gy (y_load1 rfl Try.isAgg3 (own1 (.t (.t .h)) rfl)) rfl rfl rfl rfl (b' := decide (dR7 = dR11)) rfl (decide_eq_true (outI_unique odR7 odR11 (fun k => rfl))) ?_
  refine s_gy (y_geq (a := (((nb2 * (1 + ((u64of blk) % 8))) : Nat) : Int)) (b := ((R : Nat) : Int)) (c := decide (R ≤ (nb2 * (1 + ((u64of blk) % 8))))) rfl rfl (decide_eq_decide.2 (by omega))) rfl rfl rfl rfl (b' := decide (dR7 = dR11)) rfl (decide_eq_true (outI_unique odR7 odR11 (fun k => rfl))) ?_
  refine s_y (v := .bool (decide (R ≤ (nb2 * (1 + ((u64of blk) % 8)))))) (y_pickT (b := decide (dR7 = dR11)) (v := .bool (decide (R ≤ (nb2 * (1 + ((u64of blk) % 8)))))) rfl (decide_eq_true (outI_unique odR7 odR11 (fun k => rfl))) rfl) rfl ?_
  refine s_y (v := .bool (decide (R ≤ (nb2 * (1 + ((u64of blk) % 8)))))) (y_move rfl) rfl ?_
  refine s_gy (y_move rfl) rfl rfl rfl rfl (b' := decide (R ≤ (nb2 * (1 + ((u64of blk) % 8))))) rfl (decide_eq_true (by omega)) ?_
  refine s_gy (y_sub (a := ((nb2 : Nat) : Int)) (b := 1) (c := (((nb2 - 1) : Nat) : Int)) rfl rfl (wI (by omega) (by omega) (by omega))) rfl rfl rfl rfl (b' := decide (R ≤ (nb2 * (1 + ((u64of blk) % 8))))) rfl (decide_eq_true (by omega)) ?_
  refine s_gy (y_fieldAddr (o' := 2) rfl Try.underlying53 rfl Try.sizeOf3 (by decide) rfl) rfl rfl rfl rfl (b' := decide (R ≤ (nb2 * (1 + ((u64of blk) % 8))))) rfl (decide_eq_true (by omega)) ?_
  refine s_gy (y_load1 rfl Try.isAgg3 (own1 (.t (.t .h)) rfl)) rfl rfl rfl rfl (b' := decide (R ≤ (nb2 * (1 + ((u64of blk) % 8))))) rfl (decide_eq_true (by omega)) ?_
  refine s_gy (y_mul (a := (((nb2 - 1) : Nat) : Int)) (b := (((1 + ((u64of blk) % 8)) : Nat) : Int)) (c := ((((nb2 - 1) * (1 + ((u64of blk) % 8))) : Nat) : Int)) rfl rfl (wI (Int.natCast_mul _ _).symm (by omega) (by omega))) rfl rfl rfl rfl (b' := decide (R ≤ (nb2 * (1 + ((u64of blk) % 8))))) rfl (decide_eq_true (by omega)) ?_
  refine s_gy (y_fieldAddr (o' := 0) rfl Try.underlying53 rfl Try.sizeOf3 (by decide) rfl) rfl rfl rfl rfl (b' := decide (R ≤ (nb2 * (1 + ((u64of blk) % 8))))) rfl (decide_eq_true (by omega)) ?_
  refine s_gy (y_load1 rfl Try.isAgg3 (own1 (.t (.t .h)) rfl)) rfl rfl rfl rfl (b' := decide (R ≤ (nb2 * (1 + ((u64of blk) % 8))))) rfl (decide_eq_true (by omega)) ?_
  refine s_gy (y_lss (a := ((((nb2 - 1) * (1 + ((u64of blk) % 8))) : Nat) : Int)) (b := ((R : Nat) : Int)) (c := decide (((nb2 - 1) * (1 + ((u64of blk) % 8))) < R)) rfl rfl (decide_eq_decide.2 (by omega))) rfl rfl rfl rfl (b' := decide (R ≤ (nb2 * (1 + ((u64of blk) % 8))))) rfl (decide_eq_true (by omega)) ?_
  refine s_y (v := .bool (decide (((nb2 - 1) * (1 + ((u64of blk) % 8))) < R))) (y_pickT (b := decide (R ≤ (nb2 * (1 + ((u64of blk) % 8))))) (v := .bool (decide (((nb2 - 1) * (1 + ((u64of blk) % 8))) < R))) rfl (decide_eq_true (by omega)) rfl) rfl ?_
  refine s_y (v := .bool (decide (((nb2 - 1) * (1 + ((u64of blk) % 8))) < R))) (y_move rfl) rfl ?_
  refine s_gy (y_move rfl) rfl rfl rfl rfl (b' := decide (((nb2 - 1) * (1 + ((u64of blk) % 8))) < R)) rfl (decide_eq_true (by omega)) ?_
  refine s_gy (y_move rfl) rfl rfl rfl rfl (b' := decide (((nb2 - 1) * (1 + ((u64of blk) % 8))) < R)) rfl (decide_eq_true (by omega)) ?_
  refine s_gy (y_fieldAddr (o' := 1) rfl Try.underlying53 rfl Try.sizeOf3 (by decide) rfl) rfl rfl rfl rfl (b' := decide (((nb2 - 1) * (1 + ((u64of blk) % 8))) < R)) rfl (decide_eq_true (by omega)) ?_
  refine s_gy (y_load1 rfl Try.isAgg3 (own1 (.t (.t .h)) rfl)) rfl rfl rfl rfl (b' := decide (((nb2 - 1) * (1 + ((u64of blk) % 8))) < R)) rfl (decide_eq_true (by omega)) ?_
  refine s_gy (y_mul (a := ((nb2 : Nat) : Int)) (b := ((m : Nat) : Int)) (c := (((nb2 * m) : Nat) : Int)) rfl rfl (wI (Int.natCast_mul _ _).symm (by omega) (by omega))) rfl rfl rfl rfl (b' := decide (((nb2 - 1) * (1 + ((u64of blk) % 8))) < R)) rfl (decide_eq_true (by omega)) ?_
  refine s_gy (y_gtr (a := (((2 ^ K2) : Nat) : Int)) (b := (((nb2 * m) : Nat) : Int)) (c := decide ((nb2 * m) < (2 ^ K2))) rfl rfl (decide_eq_decide.2 (by omega))) rfl rfl rfl rfl (b' := decide (((nb2 - 1) * (1 + ((u64of blk) % 8))) < R)) rfl (decide_eq_true (by omega)) ?_
  refine s_y (v := .bool (decide ((nb2 * m) < (2 ^ K2)))) (y_pickT (b := decide (((nb2 - 1) * (1 + ((u64of blk) % 8))) < R)) (v := .bool (decide ((nb2 * m) < (2 ^ K2)))) rfl (decide_eq_true (by omega)) rfl) rfl ?_
  refine s_y (v := .bool (decide ((nb2 * m) < (2 ^ K2)))) (y_move rfl) rfl ?_
  refine s_gy (y_move rfl) rfl rfl rfl rfl (b' := decide ((nb2 * m) < (2 ^ K2))) rfl (decide_eq_true (by omega)) ?_
  refine s_gy (y_move rfl) rfl rfl rfl rfl (b' := decide ((nb2 * m) < (2 ^ K2))) rfl (decide_eq_true (by omega)) ?_
  refine s_gy (y_sub (a := (((2 ^ K2) : Nat) : Int)) (b := 1) (c := ((((2 ^ K2) - 1) : Nat) : Int)) rfl rfl (wI (by omega) (by omega) (by omega))) rfl rfl rfl rfl (b' := decide ((nb2 * m) < (2 ^ K2))) rfl (decide_eq_true (by omega)) ?_
  refine s_gy (y_and (a := (((2 ^ K2) : Nat) : Int)) (b := ((((2 ^ K2) - 1) : Nat) : Int)) (c := ((((2 ^ K2) &&& ((2 ^ K2) - 1)) : Nat) : Int)) rfl rfl (zi_and (((2 ^ K2) : Nat) : Int) ((((2 ^ K2) - 1) : Nat) : Int) (by omega) (by omega) (by omega) (by omega))) rfl rfl rfl rfl (b' := decide ((nb2 * m) < (2 ^ K2))) rfl (decide_eq_true (by omega)) ?_
  refine s_gy (y_eql (a := ((((2 ^ K2) &&& ((2 ^ K2) - 1)) : Nat) : Int)) (b := 0) (c := decide ((((2 ^ K2) &&& ((2 ^ K2) - 1)) : Nat) = 0)) rfl rfl (decide_eq_decide.2 (by omega))) rfl rfl rfl rfl (b' := decide ((nb2 * m) < (2 ^ K2))) rfl (decide_eq_true (by omega)) ?_
  refine s_y (v := .bool (decide ((((2 ^ K2) &&& ((2 ^ K2) - 1)) : Nat) = 0))) (y_pickT (b := decide ((nb2 * m) < (2 ^ K2))) (v := .bool (decide ((((2 ^ K2) &&& ((2 ^ K2) - 1)) : Nat) = 0))) rfl (decide_eq_true (by omega)) rfl) rfl ?_
  refine s_y (v := .bool (decide ((((2 ^ K2) &&& ((2 ^ K2) - 1)) : Nat) = 0))) (y_assign rfl) rfl ?_
  refine wpL_nil ?_
  refine thenS_n ?_
  refine wpS_ret ?_
  refine fin1 (v := .bool (decide ((((2 ^ K2) &&& ((2 ^ K2) - 1)) : Nat) = 0))) (.inr rfl) (.nil) Try.results40 rfl ?_
  exact fun w' hs => ⟨congrArg (fun b => Ending.returned (Value.bool b)) (show (decide ((((2 ^ K2) &&& ((2 ^ K2) - 1)) : Nat) = 0)) = true from (decide_eq_true (by omega))), hs⟩
theorem psizes (pre : List Value) (p0 p1 p2 p3 : Int) (ia : Option Addr) (inn ic : Nat) (lj : List Pr) (m : Nat) (k0 : Int) (a1 a2 a3 : Option Addr) (n1 c1 n2 c2 n3 c3 : Nat) (l1 l2 l3 : List Opc) (blk : Int) (blk1 : -9223372036854775808 ≤ blk) (blk2 : blk < 9223372036854775808) (w : World) (hpre : pre.length = 33) (hpo : pre.all Value.oneCell' = true) (hmm : 1 + u64of p1 % 2 = m) (hn1 : l1.length = n1) (hr1 : Rds w a1 (l1.flatMap opcV)) (hb1 : n1 ≤ 9223372036854775807) (hn2 : l2.length = n2) (hr2 : Rds w a2 (l2.flatMap opcV)) (hb2 : n2 ≤ 9223372036854775807) (hn3 : l3.length = n3) (hr3 : Rds w a3 (l3.flatMap opcV)) (hb3 : n3 ≤ 9223372036854775807) (hni : lj.length = inn) (hri : Rds w ia (lj.flatMap prV)) (hbi : inn ≤ 9223372036854775807) (hci : inn ≤ ic)  : Pure Try.prog 40 #[.agg (pj pre [.int .i64 k0, .slice a1 n1 c1, .slice a2 n2 c2, .slice a3 n3 c3, .int .i64 p0, .int .i64 p1, .int .i64 p2, .int .i64 p3, .slice ia inn ic]).toArray, .int .i64 blk] w (.bool true) := by
  cases hc : (chkB ((m : Nat) : Int) l1 l2 l3)
  · exact psizes_no pre p0 p1 p2 p3 ia inn ic lj m k0 a1 a2 a3 n1 c1 n2 c2 n3 c3 l1 l2 l3 blk blk1 blk2 w hpre hpo hmm hn1 hr1 hb1 hn2 hr2 hb2 hn3 hr3 hb3 hni hri hbi hci hc
  · exact psizes_ok pre p0 p1 p2 p3 ia inn ic lj m k0 a1 a2 a3 n1 c1 n2 c2 n3 c3 l1 l2 l3 blk blk1 blk2 w hpre hpo hmm hn1 hr1 hb1 hn2 hr2 hb2 hn3 hr3 hb3 hni hri hbi hci hc
end Go.Proofs.Ytldkjjnjdjfipaa
