/- Str: bytes made a string, and two strings held against each other. It states nothing of the program. -/
import Derived.Test.YtldkjjnjdjfipaaData
import Derived.Test.YtldkjjnjdjfipaaSlc
import Derived.Laws.BytesString
namespace Go.Proofs.Ytldkjjnjdjfipaa
open Go Go.RowKit
set_option linter.unusedVariables false
set_option linter.unusedSimpArgs false
section
variable {P : Program} {w0 : World} {D : List Nat} {σ : Fr} {L : List Res}
theorem foldl_push : ∀ (l : List UInt8) (s : ByteArray), (l.map fun b => ((b.toNat : Nat) : Int)).foldl (fun r n => r.push (UInt8.ofNat n.toNat)) s = ⟨s.data ++ l.toArray⟩
  | [], s => by simp
  | b :: l, s => by
    rw [List.map_cons, List.foldl_cons, foldl_push l]
    congr 1
    simp [ByteArray.push]
theorem run_bstr {l : List UInt8} {w : World} {a : Option Addr} {n c : Nat} (hn : l.length = n) (h : Rds w a (l.flatMap byteV)) : (Conv.bytesToString (.slice a n c)).run P w = .ok (.string ⟨l.toArray⟩) w := by
  have e1 : l.flatMap byteV = (l.map fun b => ((b.toNat : Nat) : Int)).map (Value.int .u8) := by
    clear hn h
    induction l with
    | nil => rfl
    | cons b l ih => rw [List.flatMap_cons, ih]; rfl
  cases a with
  | none =>
    have e : l = [] := rds_none byteV_len (by decide) h rfl
    subst e
    rfl
  | some p =>
    have hl : (loadCells p n).run P w = .ok ((l.map fun b => ((b.toNat : Nat) : Int)).map (Value.int .u8)).toArray w := by
      have h2 := run_loadCells_list (P := P) (w := w) p ((l.map fun b => ((b.toNat : Nat) : Int)).map (Value.int .u8)) (fun j v hj => by
        have h3 := h j v (by rw [e1]; exact hj)
        have h4 : p = ⟨aB (some p), aO (some p), none⟩ := Option.some.inj h3.1
        rw [h4, Addr.add_lit]
        exact h3.2)
      simpa [hn] using h2
    rw [run_bytesToString w p n c _ hl, foldl_push]
    simp [ByteArray.empty, ByteArray.emptyWithCapacity]
    try rfl
theorem y_bstr {src dst e : TypeId} {x : Operand} {a : Option Addr} {n c : Nat} {l : List UInt8} (hx : ev σ x = .slice a n c) (hs : P.underlying src = some (.slice e)) (he : P.underlying e = some (.int .u8)) (hd : P.underlying dst = some .string) (hn : l.length = n) (h : ∀ w, SH w0 D L w → Rds w a (l.flatMap byteV)) :
    OpR P w0 D σ L (.convert src dst x) (.string ⟨l.toArray⟩) :=
  .mk (by simp) fun d ty pos af g w hw => by simp [execOp, hx, run_convert_bytes_string w src dst e a n c hs he hd, run_bstr hn (h w hw)]
theorem ba_loop (l : List UInt8) : ∀ (k i : Nat) (r : List UInt8), i + k = l.length → ByteArray.toList.loop ⟨l.toArray⟩ i r = r.reverse ++ l.drop i
  | 0, i, r, h => by
    unfold ByteArray.toList.loop
    rw [if_neg (by simp [ByteArray.size]; omega), List.drop_of_length_le (by omega), List.append_nil]
  | k + 1, i, r, h => by
    unfold ByteArray.toList.loop
    rw [if_pos (by simp [ByteArray.size]; omega), ba_loop l k (i + 1) _ (by omega)]
    rw [List.drop_eq_getElem_cons (show i < l.length by omega)]
    have : (ByteArray.mk l.toArray).get! i = l[i]'(by omega) := by
      simp [ByteArray.get!, getElem!_pos, show i < l.length by omega]
    rw [this]
    simp
theorem ba_toList (l : List UInt8) : (ByteArray.mk l.toArray).toList = l := by
  unfold ByteArray.toList
  rw [ba_loop l l.length 0 [] (by omega)]
  simp
theorem y_eqlStr {t t2 : TypeId} {x y : Operand} {a b : List UInt8} {c : Bool} (hx : ev σ x = .string ⟨a.toArray⟩) (hy : ev σ y = .string ⟨b.toArray⟩) (hc : decide (a = b) = c) : OpR P w0 D σ L (.binOp .eql t x y t2) (.bool c) :=
  .mk (by simp) fun d ty pos af g w _ => by
    subst hc
    have e : ((ByteArray.mk a.toArray).toList == (ByteArray.mk b.toArray).toList) = decide (a = b) := by
      rw [ba_toList, ba_toList]
      by_cases h : a = b <;> simp [h]
    simp [execOp, hx, hy, eqGuard, binOp, Op.stringOp, e]
    by_cases h : a = b <;> simp [h]
end
end Go.Proofs.Ytldkjjnjdjfipaa
