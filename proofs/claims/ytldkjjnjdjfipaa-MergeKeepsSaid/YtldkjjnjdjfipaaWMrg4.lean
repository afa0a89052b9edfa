/- merge.Split, walked. -/
import Derived.Test.YtldkjjnjdjfipaaWMrg3
namespace Go.Proofs.Ytldkjjnjdjfipaa
open Go Go.RowKit
set_option linter.unusedVariables false
set_option linter.unusedSimpArgs false
set_option maxRecDepth 10000

/-- two lists as one, sorted -/
def mgd (sq : Bool) (la lb : List Rec) : List Rec := msort sq [la, lb].flatten
theorem srow_len {sq : Bool} {r n : Nat} : ∀ {i : Nat} {x : List Rec}, (srow sq r n i x).length = x.length := by
  intro i x
  induction i, x using srow.induct (sq := sq) (r := r) (n := n) with
  | case1 i x h ih => simp only [dite_eq_ite] at ih; rw [srow_next h, ih]; split <;> simp [swp_len]
  | case2 i x h => rw [srow_end h]
theorem srows_len {sq : Bool} {n : Nat} : ∀ {r : Nat} {x : List Rec}, (srows sq n r x).length = x.length := by
  intro r x
  induction r, x using srows.induct (sq := sq) (n := n) with
  | case1 r x h ih => rw [srows_next h, ih, srow_len]
  | case2 r x h => rw [srows_done (.inl h)]
theorem msort_len (sq : Bool) (l : List Rec) : (msort sq l).length = l.length := srows_len
theorem mgd_len (sq : Bool) (la lb : List Rec) : (mgd sq la lb).length = la.length + lb.length := by unfold mgd; rw [msort_len]; simp
theorem two_all {w : World} {la lb : List Rec} {h0 h1 : SlH} (x : la.length = h0.n ∧ Rds w h0.a (la.flatMap recV)) (y : lb.length = h1.n ∧ Rds w h1.a (lb.flatMap recV)) :
    ∀ k, k < 2 → (([la, lb] : List (List Rec)).getD k []).length = (([h0, h1] : List SlH).getD k default).n ∧ Rds w (([h0, h1] : List SlH).getD k default).a ((([la, lb] : List (List Rec)).getD k []).flatMap recV)
  | 0, _ => x
  | 1, _ => y

theorem split_c (a b : Option Addr) (na ca nb cb : Nat) (la lb : List Rec) (sq : Bool) (w : World) (hna : la.length = na) (hnb : lb.length = nb) (hra : Rds w a (la.flatMap recV)) (hrb : Rds w b (lb.flatMap recV)) (hba : na ≤ 400000) (hbb : nb ≤ 400000) : Makes Try.prog 73 #[.slice a na ca, .slice b nb cb, .bool sq] w [] (fun x : Option Addr × Nat => .tuple #[.slice x.1 na na, .slice (subA x.1 x.2 na 4) ((mgd sq la lb).length - na) (x.2 - na)]) (fun x => [slR recV 4 23 (mgd sq la lb) x]) (fun x => (mgd sq la lb).length ≤ x.2) := by
  refine calls_S (n := 25) (σ0 := (upd (upd (upd fr0 0 (.slice a na ca)) 1 (.slice b nb cb)) 2 (.bool sq))) (D := []) (A := []) Try.func73 rfl Try.ntmps73 rfl (a3_fr _ _ _) (SH.start w) ?_
  have hml := mgd_len sq la lb
  have hfl : ([la, lb] : List (List Rec)).flatten.length = na + nb := by simp; omega
  refine wpS_seq ?_
  refine wpS_region ?_
  refine s_y (v := .slice none 0 0) (y_assign rfl) rfl ?_
  refine s_y (v := .slice none 0 0) (y_assign rfl) rfl ?_
  refine wpL_nil ?_
  refine thenS_n ?_
  refine wpS_seq ?_
  refine wpS_region ?_
  refine s_y (v := .slice a na ca) (y_move rfl) rfl ?_
  refine s_y (v := .slice b nb cb) (y_move rfl) rfl ?_
  refine s_e rfl ?_
  refine e_bsliceL (e := 69) (m := [(0, .slice a na ca), (1, .slice b nb cb)]) (l := [.slice a na ca, .slice b nb cb]) (evc rfl (evc rfl evn)) (fun w => by kernel_rfl) ?_
  intro b_1
  refine s_e rfl ?_
  refine e_call (f := 167) (args := #[.slice (some ⟨b_1, 0, none⟩) 2 2]) (X := Option Addr × Nat) (A := []) (M := [cel b_1 69 [.slice a na ca, .slice b nb cb]]) (V := slV (([la, lb]).flatten)) (A' := fun x => [slR recV 4 23 (([la, lb]).flatten) x]) (C := fun x => (([la, lb]).flatten).length ≤ x.2) Try.call167 (ev1 rfl) (.p .h .nil) (fun w hs => (concat_c (some ⟨b_1, 0, none⟩) 2 2 ([⟨a, na, ca⟩, ⟨b, nb, cb⟩]) ([la, lb]) w rfl rfl (celR .h w hs) (two_all ⟨hna, oldR hra w hs⟩ ⟨hnb, oldR hrb w hs⟩) (by simp; omega) (by decide)).cap) ?_
  rintro ⟨a_2, c_3⟩ hc4; replace hc4 : (([la, lb]).flatten).length ≤ c_3 := hc4
  refine s_y (v := .bool sq) (y_move rfl) rfl ?_
  refine s_e rfl ?_
  refine e_call (f := 74) (args := #[.slice a_2 ((([la, lb]).flatten).length) c_3, .bool sq]) (X := Option Addr × Nat) (A := []) (M := [osl a_2 c_3 ((([la, lb]).flatten).length) 4 23 ((([la, lb]).flatten).flatMap recV), cel b_1 69 [.slice a na ca, .slice b nb cb]]) (V := slV (msort sq (([la, lb]).flatten))) (A' := fun x => [slR recV 4 23 (msort sq (([la, lb]).flatten)) x]) (C := fun x => (msort sq (([la, lb]).flatten)).length ≤ x.2) Try.call74 (ev2 rfl rfl) (.p .h (.p .h .nil)) (fun w hs => (sort_c a_2 ((([la, lb]).flatten).length) c_3 (([la, lb]).flatten) sq w rfl (oslR .h w hs) (by omega)).cap) ?_
  rintro ⟨a_6, c_7⟩ hc8; replace hc8 : (msort sq (([la, lb]).flatten)).length ≤ c_7 := hc8
  replace hc8 : (mgd sq la lb).length ≤ c_7 := hc8
  refine s_y (v := .slice a_6 ((mgd sq la lb).length) c_7) (y_assign rfl) rfl ?_
  refine wpL_nil ?_
  refine thenS_n ?_
  refine wpS_seq ?_
  refine wpS_lex (by kernel_rfl) (by kernel_rfl) ?_
  refine x_y (v := .slice a_6 ((mgd sq la lb).length) c_7) (y_move rfl) rfl ?_
  refine x_y (v := .slice a na ca) (y_move rfl) rfl ?_
  refine x_y (v := .int .i64 (((na : Nat) : Int))) (y_len (ty' := 0) (at_ := #[]) rfl Try.underlying69) rfl ?_
  refine x_y (v := .slice a na ca) (y_move rfl) rfl ?_
  refine x_y (v := .int .i64 (((na : Nat) : Int))) (y_len (ty' := 0) (at_ := #[]) rfl Try.underlying69) rfl ?_
  refine x_y (v := .slice a_6 na na) (y_sliceHM (h' := na) (m' := na) rfl rfl rfl Try.underlying69 Try.sizeOf23 (by omega) (by omega) (by omega) (by omega) (by omega)) rfl ?_
  refine x_y (v := .slice a_6 ((mgd sq la lb).length) c_7) (y_move rfl) rfl ?_
  refine x_y (v := .slice a na ca) (y_move rfl) rfl ?_
  refine x_y (v := .int .i64 (((na : Nat) : Int))) (y_len (ty' := 0) (at_ := #[]) rfl Try.underlying69) rfl ?_
  refine x_y (v := .slice (subA a_6 c_7 na 4) ((mgd sq la lb).length - na) (c_7 - na)) (y_sliceL (l' := na) rfl rfl Try.underlying69 Try.sizeOf23 (by omega) (by omega) (by omega)) rfl ?_
  refine x_y (v := .slice a_6 na na) (y_assign rfl) rfl ?_
  refine x_y (v := .slice (subA a_6 c_7 na 4) ((mgd sq la lb).length - na) (c_7 - na)) (y_assign rfl) rfl ?_
  refine x_nil ?_
  refine thenS_n ?_
  refine wpS_ret ?_
  refine fin2 (M := [osl a_6 c_7 ((mgd sq la lb).length) 4 23 ((mgd sq la lb).flatMap recV)]) (.inr rfl) (.p .h .nil) Try.results73 (rvT (v := .slice a_6 na na) rfl) (rvT (v := .slice (subA a_6 c_7 na 4) ((mgd sq la lb).length - na) (c_7 - na)) rfl) ?_
  exact fun w' hs => ⟨(a_6, c_7), rfl, hs, by omega⟩

end Go.Proofs.Ytldkjjnjdjfipaa
