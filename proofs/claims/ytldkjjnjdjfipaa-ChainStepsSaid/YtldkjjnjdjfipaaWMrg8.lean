/- The reference's Split, walked. -/
import Derived.Test.YtldkjjnjdjfipaaP14d
namespace Go.Proofs.Ytldkjjnjdjfipaa
open Go Go.RowKit
set_option linter.unusedVariables false
set_option linter.unusedSimpArgs false
set_option maxRecDepth 10000

theorem refsplit_c (a b : Option Addr) (na ca nb cb : Nat) (la lb : List Rec) (sq : Bool) (w : World) (hna : la.length = na) (hnb : lb.length = nb) (hra : Rds w a (la.flatMap recV)) (hrb : Rds w b (lb.flatMap recV)) (hba : na ≤ 400000) (hbb : nb ≤ 400000) : Makes Try.prog 76 #[.slice a na ca, .slice b nb cb, .bool sq] w [] (fun x : Option Addr × Nat => .tuple #[.slice x.1 na x.2, .slice (subA x.1 x.2 na 4) ((isort sq (la ++ lb)).length - na) (x.2 - na)]) (fun x => [slR recV 4 23 (isort sq (la ++ lb)) x]) (fun x => (isort sq (la ++ lb)).length ≤ x.2) := by
  refine calls_S (n := 23) (σ0 := (upd (upd (upd fr0 0 (.slice a na ca)) 1 (.slice b nb cb)) 2 (.bool sq))) (D := []) (A := []) Try.func76 rfl Try.ntmps76 rfl (a3_fr _ _ _) (SH.start w) ?_
  have hml : (isort sq (la ++ lb)).length = na + nb := by rw [isort_eq, msort_len, List.length_append]; omega
  have hfl : (la ++ lb).length = na + nb := by rw [List.length_append]; omega
  refine wpS_seq ?_
  refine wpS_region ?_
  refine s_y (v := .slice none 0 0) (y_assign rfl) rfl ?_
  refine s_y (v := .slice none 0 0) (y_assign rfl) rfl ?_
  refine wpL_nil ?_
  refine thenS_n ?_
  refine wpS_seq ?_
  refine wpS_region ?_
  refine s_y (v := .slice a na ca) (y_move rfl) rfl ?_
  refine s_e rfl ?_
  refine OpE.ent (fun w hs => SH.nil0 (sz := 4) (t := 23) w hs) ?_
  refine e_appendL (enc := recV) (xs := ([] : List Rec)) (ns := (la : List Rec)) (zs := la) (bytes := 32) recV_len recV_one Try.underlying69 (i := Try.t23) rfl rfl rfl rfl rfl (by decide) rfl rfl (by first | rfl | omega) hna.symm .h (oldR hra) (List.nil_append _) (by omega) (by omega) ?_
  intro a_1 c_2
  refine s_y (v := .slice b nb cb) (y_move rfl) rfl ?_
  refine s_e rfl ?_
  refine e_appendL (enc := recV) (xs := (la : List Rec)) (ns := (lb : List Rec)) (zs := (la ++ lb)) (bytes := 32) recV_len recV_one Try.underlying69 (i := Try.t23) rfl rfl rfl rfl rfl (by decide) rfl rfl (by first | rfl | omega) hnb.symm .h (oldR hrb) rfl (by rw [List.length_append]; omega) (by rw [List.length_append]; omega) ?_
  intro a_3 c_4
  refine s_y (v := .bool sq) (y_move rfl) rfl ?_
  refine s_e rfl ?_
  refine e_call (f := 78) (args := #[.slice a_3 ((la ++ lb).length) c_4, .bool sq]) (X := Option Addr × Nat) (A := []) (M := [osl a_3 c_4 ((la ++ lb).length) 4 23 ((la ++ lb).flatMap recV)]) (V := slV (isort sq (la ++ lb))) (A' := fun x => [slR recV 4 23 (isort sq (la ++ lb)) x]) (C := fun x => (isort sq (la ++ lb)).length ≤ x.2) Try.call78 (ev2 rfl rfl) (.p .h .nil) (fun w hs => (refsort_c a_3 ((la ++ lb).length) c_4 (la ++ lb) sq w rfl (oslR .h w hs) (by omega)).cap) ?_
  rintro ⟨a_5, c_6⟩ hc7; replace hc7 : (isort sq (la ++ lb)).length ≤ c_6 := hc7
  refine s_y (v := .slice a_5 ((isort sq (la ++ lb)).length) c_6) (y_assign rfl) rfl ?_
  refine wpL_nil ?_
  refine thenS_n ?_
  refine wpS_seq ?_
  refine wpS_lex (by kernel_rfl) (by kernel_rfl) ?_
  refine x_y (v := .slice a_5 ((isort sq (la ++ lb)).length) c_6) (y_move rfl) rfl ?_
  refine x_y (v := .slice a na ca) (y_move rfl) rfl ?_
  refine x_y (v := .int .i64 (((na : Nat) : Int))) (y_len (ty' := 0) (at_ := #[]) rfl Try.underlying69) rfl ?_
  refine x_y (v := .slice a_5 na c_6) (y_sliceH (h' := na) rfl rfl Try.underlying69 Try.sizeOf23 (by omega) (by omega) (by omega)) rfl ?_
  refine x_y (v := .slice a_5 ((isort sq (la ++ lb)).length) c_6) (y_move rfl) rfl ?_
  refine x_y (v := .slice a na ca) (y_move rfl) rfl ?_
  refine x_y (v := .int .i64 (((na : Nat) : Int))) (y_len (ty' := 0) (at_ := #[]) rfl Try.underlying69) rfl ?_
  refine x_y (v := .slice (subA a_5 c_6 na 4) ((isort sq (la ++ lb)).length - na) (c_6 - na)) (y_sliceL (l' := na) rfl rfl Try.underlying69 Try.sizeOf23 (by omega) (by omega) (by omega)) rfl ?_
  refine x_y (v := .slice a_5 na c_6) (y_assign rfl) rfl ?_
  refine x_y (v := .slice (subA a_5 c_6 na 4) ((isort sq (la ++ lb)).length - na) (c_6 - na)) (y_assign rfl) rfl ?_
  refine x_nil ?_
  refine thenS_n ?_
  refine wpS_ret ?_
  refine fin2 (M := [osl a_5 c_6 ((isort sq (la ++ lb)).length) 4 23 ((isort sq (la ++ lb)).flatMap recV)]) (.inr rfl) (.p .h .nil) Try.results76 (rvT (v := .slice a_5 na c_6) rfl) (rvT (v := .slice (subA a_5 c_6 na 4) ((isort sq (la ++ lb)).length - na) (c_6 - na)) rfl) ?_
  exact fun w' hs => ⟨(a_5, c_6), rfl, hs, by omega⟩

end Go.Proofs.Ytldkjjnjdjfipaa
